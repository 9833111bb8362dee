/- The functions that the law reaches, in the small language, printed by program. No conditions. -/
import Derived.Test.YtgefboppfddmdaaDLLamps
import Derived.Test.YtgefboppfddmdaaV4
set_option maxRecDepth 100000
open Go Go.Vs
namespace Go.Vs.G
def F326 : PFunc :=
 ⟨[false, false, false], [.tmp 6],
  (.seq
   (.region [] [] [0, 1, 2] false [
     (none, .asg 6 (.c (.bool false)) .copy)])
   (.seq
    (.region [] [] [6] false [
      (none, .mv 7 (.v 0)),
      (none, .mv 8 (.v 1)),
      (none, .bin 9 .geq (.v 7) (.v 8)),
      (none, .mv 10 (.v 9)),
      (some (10, true), .mv 11 (.v 0)),
      (some (10, true), .mv 12 (.v 2)),
      (some (10, true), .bin 13 .leq (.v 11) (.v 12)),
      (none, .pick 14 (.v 10) (.v 13) (.c (.bool false))),
      (none, .asg 6 (.v 14) .copy)])
    (.ret [6])))⟩
def F64 : PFunc :=
 ⟨[false], [.tmp 2],
  (.seq
   (.region [] [] [0] false [
     (none, .asg 2 (.c (.bool false)) .copy)])
   (.seq
    (.region [] [] [2] false [
      (none, .mv 3 (.v 0)),
      (none, .call (some 4) 326 false [((.v 3), false), ((.c (.int .i64 0)), false), ((.c (.int .i64 100000)), false)]),
      (none, .un 5 .not (.v 4)),
      (none, .asg 2 (.v 5) .copy)])
    (.ret [2])))⟩
def F273 : PFunc :=
 ⟨[false], [.tmp 2],
  (.seq
   (.region [] [] [0] false [
     (none, .asg 2 (.c (.sl true 1 [])) .copy)])
   (.seq
    (.region [] [] [0, 3] false [
      (none, .mksl 5 1 (.int .i64 0) 0 []),
      (none, .asg 3 (.v 5) .move)])
    (.seq
     (.seq
      (.region [] [] [0, 3, 4] false [
        (none, .asg 4 (.c (.int .i64 0)) .copy)])
      (.block 0
       (.loop
        (.seq
         (.seq
          (.region [] [] [0, 3, 4, 10] false [
            (none, .mv 6 (.v 0)),
            (none, .mv 7 (.v 4)),
            (none, .conv 8 .u64 (.v 7)),
            (none, .bin 9 .shr (.v 6) (.v 8)),
            (none, .bin 10 .gtr (.v 9) (.c (.int .i64 0)))])
          (.cond (.v 10)
           (.skip [0, 3, 4])
           (.exit 0 [3])))
         (.seq
          (.block 1
           (.seq
            (.region [] [] [0, 3, 4, 18] false [
              (none, .mv 13 (.v 0)),
              (none, .mv 14 (.v 4)),
              (none, .conv 15 .u64 (.v 14)),
              (none, .bin 16 .shr (.v 13) (.v 15)),
              (none, .bin 17 .and (.v 16) (.c (.int .i64 1))),
              (none, .bin 18 .eql (.v 17) (.c (.int .i64 1)))])
            (.cond (.v 18)
             (.region [(19, 3, false)] [] [0, 3, 4] false [
               (none, .mv 19 (.v 3)),
               (none, .mv 20 (.v 4)),
               (none, .mksl 21 1 (.int .i64 0) 1 [(0, (.v 20), .copy)]),
               (none, .app 22 1 (.v 19) (.v 21) .move),
               (none, .asg 3 (.v 22) .move)])
             (.skip [0, 3, 4]))))
          (.region [] [] [0, 3, 4] false [
            (none, .mv 11 (.v 4)),
            (none, .bin 12 .add (.v 11) (.c (.int .i64 1))),
            (none, .asg 4 (.v 12) .copy)]))))))
     (.seq
      (.region [(23, 3, false)] [] [2] false [
        (none, .mv 23 (.v 3)),
        (none, .asg 2 (.v 23) .move)])
      (.ret [2])))))⟩
def F31 : PFunc :=
 ⟨[false], [.tmp 2],
  (.seq
   (.region [] [] [0] false [
     (none, .asg 2 (.c (.bool false)) .copy)])
   (.seq
    (.region [] [] [2] false [
      (none, .mv 3 (.v 0)),
      (none, .mv 4 (.v 0)),
      (none, .bin 5 .neq (.v 3) (.v 4)),
      (none, .asg 2 (.v 5) .copy)])
    (.ret [2])))⟩
def F27 : PFunc :=
 ⟨[false, false], [.tmp 4],
  (.seq
   (.region [] [] [0, 1] false [
     (none, .asg 4 (.c (.int .i64 0)) .copy)])
   (.seq
    (.region [] [] [0, 1, 5] false [
      (none, .mv 7 (.v 0)),
      (none, .call (some 8) 31 false [((.v 7), false)]),
      (none, .asg 5 (.v 8) .copy)])
    (.seq
     (.region [] [] [0, 1, 5, 6] false [
       (none, .mv 9 (.v 1)),
       (none, .call (some 10) 31 false [((.v 9), false)]),
       (none, .asg 6 (.v 10) .copy)])
     (.seq
      (.seq
       (.region [] [] [0, 1, 6, 11] false [
         (none, .mv 11 (.v 5))])
       (.cond (.v 11)
        (.seq
         (.seq
          (.region [] [] [12] false [
            (none, .mv 12 (.v 6))])
          (.cond (.v 12)
           (.seq
            (.region [] [] [4] false [
              (none, .asg 4 (.c (.int .i64 0)) .copy)])
            (.ret [4]))
           (.skip [])))
         (.seq
          (.region [] [] [4] false [
            (none, .asg 4 (.c (.int .i64 (-1))) .copy)])
          (.ret [4])))
        (.skip [0, 1, 6])))
      (.seq
       (.seq
        (.region [] [] [0, 1, 13] false [
          (none, .mv 13 (.v 6))])
        (.cond (.v 13)
         (.seq
          (.region [] [] [4] false [
            (none, .asg 4 (.c (.int .i64 1)) .copy)])
          (.ret [4]))
         (.skip [0, 1])))
       (.seq
        (.seq
         (.region [] [] [0, 1, 16] false [
           (none, .mv 14 (.v 0)),
           (none, .mv 15 (.v 1)),
           (none, .bin 16 .lss (.v 14) (.v 15))])
         (.cond (.v 16)
          (.seq
           (.region [] [] [4] false [
             (none, .asg 4 (.c (.int .i64 (-1))) .copy)])
           (.ret [4]))
          (.skip [0, 1])))
        (.seq
         (.seq
          (.region [] [] [19] false [
            (none, .mv 17 (.v 0)),
            (none, .mv 18 (.v 1)),
            (none, .bin 19 .gtr (.v 17) (.v 18))])
          (.cond (.v 19)
           (.seq
            (.region [] [] [4] false [
              (none, .asg 4 (.c (.int .i64 1)) .copy)])
            (.ret [4]))
           (.skip [])))
         (.seq
          (.region [] [] [4] false [
            (none, .asg 4 (.c (.int .i64 0)) .copy)])
          (.ret [4])))))))))⟩
def F792 : PFunc :=
 ⟨[false, false], [.tmp 4],
  (.seq
   (.region [] [] [0, 1] false [
     (none, .asg 4 (.c (.int .i64 0)) .copy)])
   (.seq
    (.seq
     (.region [(9, 0, false)] [] [0, 1, 9, 10, 11] false [
       (none, .mv 9 (.v 0)),
       (none, .len 10 false (.v 9)),
       (none, .mv 11 (.c (.int .i64 0)))])
     (.block 0
      (.loop
       (.seq
        (.region [(9, 0, false)] [] [0, 1, 9, 10, 11, 12] false [
          (none, .bin 12 .lss (.v 11) (.v 10))])
        (.seq
         (.cond (.v 12)
          (.skip [0, 1, 9, 10, 11])
          (.exit 0 [0, 1]))
         (.seq
          (.block 1
           (.seq
            (.region [(14, 0, false), (9, 0, false)] [] [0, 1, 5, 6, 9, 10, 11] false [
              (none, .mv 13 (.v 11)),
              (none, .iadr 14 1 (.v 9) (.v 11)),
              (none, .load 15 false 1 (.v 14) none),
              (none, .asg 5 (.v 13) .copy),
              (none, .asg 6 (.v 15) .copy)])
            (.seq
             (.seq
              (.region [(17, 1, false), (9, 0, false)] [] [0, 1, 5, 6, 9, 10, 11, 19] false [
                (none, .mv 16 (.v 5)),
                (none, .mv 17 (.v 1)),
                (none, .len 18 false (.v 17)),
                (none, .bin 19 .geq (.v 16) (.v 18))])
              (.cond (.v 19)
               (.seq
                (.region [] [] [4] false [
                  (none, .asg 4 (.c (.int .i64 1)) .copy)])
                (.ret [4]))
               (.skip [0, 1, 5, 6, 9, 10, 11])))
             (.seq
              (.region [(22, 1, false), (20, 1, false), (9, 0, false)] [] [0, 1, 6, 7, 9, 10, 11] false [
                (none, .mv 20 (.v 1)),
                (none, .mv 21 (.v 5)),
                (none, .iadr 22 1 (.v 20) (.v 21)),
                (none, .load 23 false 1 (.v 22) none),
                (none, .asg 7 (.v 23) .copy)])
              (.seq
               (.region [(9, 0, false)] [] [0, 1, 8, 9, 10, 11] false [
                 (none, .mv 24 (.v 6)),
                 (none, .mv 25 (.v 7)),
                 (none, .call (some 26) 27 false [((.v 24), false), ((.v 25), false)]),
                 (none, .asg 8 (.v 26) .copy)])
               (.seq
                (.region [(9, 0, false)] [] [0, 1, 8, 9, 10, 11, 28] false [
                  (none, .mv 27 (.v 8)),
                  (none, .bin 28 .neq (.v 27) (.c (.int .i64 0)))])
                (.cond (.v 28)
                 (.seq
                  (.region [] [] [4] false [
                    (none, .mv 29 (.v 8)),
                    (none, .asg 4 (.v 29) .copy)])
                  (.ret [4]))
                 (.skip [0, 1, 9, 10, 11]))))))))
          (.region [(9, 0, false)] [] [0, 1, 9, 10, 11] false [
            (none, .bin 30 .add (.v 11) (.c (.int .i64 1))),
            (none, .mv 11 (.v 30))])))))))
    (.seq
     (.seq
      (.region [(33, 1, false), (31, 0, false)] [] [35] false [
        (none, .mv 31 (.v 0)),
        (none, .len 32 false (.v 31)),
        (none, .mv 33 (.v 1)),
        (none, .len 34 false (.v 33)),
        (none, .bin 35 .lss (.v 32) (.v 34))])
      (.cond (.v 35)
       (.seq
        (.region [] [] [4] false [
          (none, .asg 4 (.c (.int .i64 (-1))) .copy)])
        (.ret [4]))
       (.skip [])))
     (.seq
      (.region [] [] [4] false [
        (none, .asg 4 (.c (.int .i64 0)) .copy)])
      (.ret [4])))))⟩
def F258 : PFunc :=
 ⟨[false, false, false], [.tmp 6, .tmp 7, .tmp 8],
  (.seq
   (.region [] [] [0, 1, 2] false [
     (none, .asg 6 (.c (.sl true 1 [])) .copy),
     (none, .asg 7 (.c (.int .i64 0)) .copy),
     (none, .asg 8 (.c (.bool false)) .copy)])
   (.seq
    (.region [] [] [0, 1, 2, 9, 10, 11] false [
      (none, .mksl 19 1 (.int .i64 0) 0 []),
      (none, .asg 9 (.v 19) .move),
      (none, .asg 10 (.c (.int .i64 0)) .copy),
      (none, .asg 11 (.c (.bool false)) .copy)])
    (.seq
     (.seq
      (.region [(20, 0, false)] [] [0, 1, 2, 9, 10, 11, 23, 24] false [
        (none, .mv 20 (.v 0)),
        (none, .len 21 false (.v 20)),
        (none, .conv 22 .u64 (.v 21)),
        (none, .bin 23 .shl (.c (.int .i64 1)) (.v 22)),
        (none, .mv 24 (.c (.int .i64 0)))])
      (.block 0
       (.loop
        (.seq
         (.region [] [] [0, 1, 2, 9, 10, 11, 23, 24, 25] false [
           (none, .bin 25 .lss (.v 24) (.v 23))])
         (.seq
          (.cond (.v 25)
           (.skip [0, 1, 2, 9, 10, 11, 23, 24])
           (.exit 0 [9, 10, 11]))
          (.seq
           (.block 1
            (.seq
             (.region [] [] [0, 1, 2, 9, 10, 11, 12, 23, 24] false [
               (none, .mv 26 (.v 24)),
               (none, .asg 12 (.v 26) .copy)])
             (.seq
              (.region [] [] [0, 1, 2, 9, 10, 11, 13, 14, 15, 23, 24] false [
                (none, .mv 27 (.v 12)),
                (none, .call (some 28) 273 false [((.v 27), false)]),
                (none, .asg 13 (.v 28) .move),
                (none, .asg 14 (.c (.int .i64 0)) .copy),
                (none, .asg 15 (.c (.int .i64 0)) .copy)])
              (.seq
               (.seq
                (.region [(29, 13, false)] [] [0, 1, 2, 9, 10, 11, 13, 14, 15, 23, 24, 29, 30, 31] false [
                  (none, .mv 29 (.v 13)),
                  (none, .len 30 false (.v 29)),
                  (none, .mv 31 (.c (.int .i64 0)))])
                (.block 2
                 (.loop
                  (.seq
                   (.region [(29, 13, false)] [] [0, 1, 2, 9, 10, 11, 13, 14, 15, 23, 24, 29, 30, 31, 32] false [
                     (none, .bin 32 .lss (.v 31) (.v 30))])
                   (.seq
                    (.cond (.v 32)
                     (.skip [0, 1, 2, 9, 10, 11, 13, 14, 15, 23, 24, 29, 30, 31])
                     (.exit 2 [0, 1, 2, 9, 10, 11, 13, 14, 15, 23, 24]))
                    (.seq
                     (.block 3
                      (.seq
                       (.region [(33, 13, false), (29, 13, false)] [] [0, 1, 2, 9, 10, 11, 13, 14, 15, 17, 23, 24, 29, 30, 31] false [
                         (none, .iadr 33 1 (.v 29) (.v 31)),
                         (none, .load 34 false 1 (.v 33) none),
                         (none, .asg 17 (.v 34) .copy)])
                       (.seq
                        (.region [(38, 0, false), (36, 0, false), (29, 13, false)] [] [0, 1, 2, 9, 10, 11, 13, 14, 15, 17, 23, 24, 29, 30, 31] false [
                          (none, .mv 35 (.v 14)),
                          (none, .mv 36 (.v 0)),
                          (none, .mv 37 (.v 17)),
                          (none, .iadr 38 1 (.v 36) (.v 37)),
                          (none, .load 39 false 1 (.v 38) none),
                          (none, .bin 40 .add (.v 35) (.v 39)),
                          (none, .asg 14 (.v 40) .copy)])
                        (.region [(44, 1, false), (42, 1, false), (29, 13, false)] [] [0, 1, 2, 9, 10, 11, 13, 14, 15, 23, 24, 29, 30, 31] false [
                          (none, .mv 41 (.v 15)),
                          (none, .mv 42 (.v 1)),
                          (none, .mv 43 (.v 17)),
                          (none, .iadr 44 1 (.v 42) (.v 43)),
                          (none, .load 45 false 1 (.v 44) none),
                          (none, .bin 46 .add (.v 41) (.v 45)),
                          (none, .asg 15 (.v 46) .copy)]))))
                     (.region [(29, 13, false)] [] [0, 1, 2, 9, 10, 11, 13, 14, 15, 23, 24, 29, 30, 31] false [
                       (none, .bin 47 .add (.v 31) (.c (.int .i64 1))),
                       (none, .mv 31 (.v 47))])))))))
               (.seq
                (.seq
                 (.region [] [] [0, 1, 2, 9, 10, 11, 13, 15, 23, 24, 50] false [
                   (none, .mv 48 (.v 14)),
                   (none, .mv 49 (.v 2)),
                   (none, .bin 50 .lss (.v 48) (.v 49))])
                 (.cond (.v 50)
                  (.exit 1 [0, 1, 2, 9, 10, 11, 23, 24])
                  (.skip [0, 1, 2, 9, 10, 11, 13, 15, 23, 24])))
                (.seq
                 (.region [(72, 9, false), (71, 13, false), (67, 9, false), (65, 13, false), (61, 9, false), (59, 13, false)] [] [0, 1, 2, 9, 10, 11, 13, 15, 18, 23, 24] false [
                   (none, .mv 51 (.v 15)),
                   (none, .mv 52 (.v 10)),
                   (none, .bin 53 .lss (.v 51) (.v 52)),
                   (none, .mv 54 (.v 53)),
                   (some (54, false), .mv 55 (.v 15)),
                   (some (54, false), .mv 56 (.v 10)),
                   (some (54, false), .bin 57 .eql (.v 55) (.v 56)),
                   (some (54, false), .mv 58 (.v 57)),
                   (some (58, true), .mv 59 (.v 13)),
                   (some (58, true), .len 60 false (.v 59)),
                   (some (58, true), .mv 61 (.v 9)),
                   (some (58, true), .len 62 false (.v 61)),
                   (some (58, true), .bin 63 .lss (.v 60) (.v 62)),
                   (some (58, true), .mv 64 (.v 63)),
                   (some (64, false), .mv 65 (.v 13)),
                   (some (64, false), .len 66 false (.v 65)),
                   (some (64, false), .mv 67 (.v 9)),
                   (some (64, false), .len 68 false (.v 67)),
                   (some (64, false), .bin 69 .eql (.v 66) (.v 68)),
                   (some (64, false), .mv 70 (.v 69)),
                   (some (70, true), .mv 71 (.v 13)),
                   (some (70, true), .mv 72 (.v 9)),
                   (some (70, true), .call (some 73) 792 false [((.v 71), false), ((.v 72), false)]),
                   (some (70, true), .bin 74 .lss (.v 73) (.c (.int .i64 0))),
                   (some (64, false), .pick 75 (.v 70) (.v 74) (.c (.bool false))),
                   (some (58, true), .pick 76 (.v 64) (.c (.bool true)) (.v 75)),
                   (some (54, false), .pick 77 (.v 58) (.v 76) (.c (.bool false))),
                   (none, .pick 78 (.v 54) (.c (.bool true)) (.v 77)),
                   (none, .asg 18 (.v 78) .copy)])
                 (.seq
                  (.region [] [] [0, 1, 2, 9, 10, 11, 13, 15, 23, 24, 83] false [
                    (none, .mv 79 (.v 11)),
                    (none, .un 80 .not (.v 79)),
                    (none, .mv 81 (.v 80)),
                    (some (81, false), .mv 82 (.v 18)),
                    (none, .pick 83 (.v 81) (.c (.bool true)) (.v 82))])
                  (.cond (.v 83)
                   (.region [(84, 13, false)] [] [0, 1, 2, 9, 10, 11, 23, 24] false [
                     (none, .mv 84 (.v 13)),
                     (none, .mv 85 (.v 15)),
                     (none, .asg 9 (.v 84) .move),
                     (none, .asg 10 (.v 85) .copy),
                     (none, .asg 11 (.c (.bool true)) .copy)])
                   (.skip [0, 1, 2, 9, 10, 11, 23, 24])))))))))
           (.region [] [] [0, 1, 2, 9, 10, 11, 23, 24] false [
             (none, .bin 86 .add (.v 24) (.c (.int .i64 1))),
             (none, .mv 24 (.v 86))])))))))
     (.seq
      (.region [(87, 9, false)] [] [6, 7, 8] false [
        (none, .mv 87 (.v 9)),
        (none, .mv 88 (.v 10)),
        (none, .mv 89 (.v 11)),
        (none, .asg 6 (.v 87) .move),
        (none, .asg 7 (.v 88) .copy),
        (none, .asg 8 (.v 89) .copy)])
      (.ret [6, 7, 8])))))⟩
def F286 : PFunc :=
 ⟨[false], [.tmp 2],
  (.seq
   (.region [] [] [0] false [
     (none, .asg 2 (.c (.bool false)) .copy)])
   (.seq
    (.region [] [] [2] false [
      (none, .mv 3 (.v 0)),
      (none, .call (some 4) 326 false [((.v 3), false), ((.c (.int .i64 1)), false), ((.c (.int .i64 100000)), false)]),
      (none, .un 5 .not (.v 4)),
      (none, .asg 2 (.v 5) .copy)])
    (.ret [2])))⟩
def F818 : PFunc :=
 ⟨[false, false], [.tmp 4],
  (.seq
   (.region [] [] [0, 1] false [
     (none, .asg 4 (.c (.int .i64 0)) .copy)])
   (.seq
    (.seq
     (.region [(6, 0, false)] [] [0, 1, 7, 8] false [
       (none, .mv 6 (.v 0)),
       (none, .len 7 false (.v 6)),
       (none, .mv 8 (.c (.int .i64 0)))])
     (.block 0
      (.loop
       (.seq
        (.region [] [] [0, 1, 7, 8, 9] false [
          (none, .bin 9 .lss (.v 8) (.v 7))])
        (.seq
         (.cond (.v 9)
          (.skip [0, 1, 7, 8])
          (.exit 0 []))
         (.seq
          (.block 1
           (.seq
            (.region [] [] [0, 1, 5, 7, 8] false [
              (none, .mv 10 (.v 8)),
              (none, .asg 5 (.v 10) .copy)])
            (.seq
             (.region [(14, 0, false), (12, 0, false), (11, 1, false)] [] [0, 1, 5, 7, 8, 16] false [
               (none, .mv 11 (.v 1)),
               (none, .mv 12 (.v 0)),
               (none, .mv 13 (.v 5)),
               (none, .iadr 14 1 (.v 12) (.v 13)),
               (none, .load 15 false 1 (.v 14) none),
               (none, .callv (some 16) (.v 11) [(.v 15)])])
             (.cond (.v 16)
              (.seq
               (.region [] [] [4] false [
                 (none, .mv 17 (.v 5)),
                 (none, .asg 4 (.v 17) .copy)])
               (.ret [4]))
              (.skip [0, 1, 7, 8])))))
          (.region [] [] [0, 1, 7, 8] false [
            (none, .bin 18 .add (.v 8) (.c (.int .i64 1))),
            (none, .mv 8 (.v 18))])))))))
    (.seq
     (.region [] [] [4] false [
       (none, .asg 4 (.c (.int .i64 (-1))) .copy)])
     (.ret [4]))))⟩
def F796 : PFunc :=
 ⟨[false, false], [.tmp 4],
  (.seq
   (.region [] [] [0, 1] false [
     (none, .asg 4 (.c (.bool false)) .copy)])
   (.seq
    (.region [(6, 1, false), (5, 0, false)] [] [4] false [
      (none, .mv 5 (.v 0)),
      (none, .mv 6 (.v 1)),
      (none, .call (some 7) 818 false [((.v 5), false), ((.v 6), false)]),
      (none, .bin 8 .geq (.v 7) (.c (.int .i64 0))),
      (none, .asg 4 (.v 8) .copy)])
    (.ret [4])))⟩
def F285 : PFunc :=
 ⟨[false, false], [.tmp 4],
  (.seq
   (.region [] [] [0, 1] false [
     (none, .asg 4 (.c (.int .i64 0)) .copy)])
   (.seq
    (.seq
     (.region [(14, 0, false), (9, 0, false)] [] [16] false [
       (none, .mv 5 (.v 1)),
       (none, .call (some 6) 326 false [((.v 5), false), ((.c (.int .i64 0)), false), ((.c (.int .i64 100000)), false)]),
       (none, .un 7 .not (.v 6)),
       (none, .mv 8 (.v 7)),
       (some (8, false), .mv 9 (.v 0)),
       (some (8, false), .len 10 false (.v 9)),
       (some (8, false), .bin 11 .gtr (.v 10) (.c (.int .i64 8))),
       (none, .pick 12 (.v 8) (.c (.bool true)) (.v 11)),
       (none, .mv 13 (.v 12)),
       (some (13, false), .mv 14 (.v 0)),
       (some (13, false), .call (some 15) 796 false [((.v 14), false), ((.c (.fn 286 [])), false)]),
       (none, .pick 16 (.v 13) (.c (.bool true)) (.v 15))])
     (.cond (.v 16)
      (.seq
       (.region [] [] [4] false [
         (none, .asg 4 (.c (.int .i64 2)) .copy)])
       (.ret [4]))
      (.skip [])))
    (.seq
     (.region [] [] [4] false [
       (none, .asg 4 (.c (.int .i64 0)) .copy)])
     (.ret [4]))))⟩
def F63 : PFunc :=
 ⟨[false, false, false], [.tmp 6, .tmp 7, .tmp 8],
  (.seq
   (.region [] [] [0, 1, 2] false [
     (none, .asg 6 (.c (.sl true 1 [])) .copy),
     (none, .asg 7 (.c (.int .i64 0)) .copy),
     (none, .asg 8 (.c (.int .i64 0)) .copy)])
   (.seq
    (.seq
     (.region [(24, 1, false), (19, 0, false), (17, 1, false), (12, 0, false)] [] [0, 1, 2, 26] false [
       (none, .mv 12 (.v 0)),
       (none, .mv 13 (.v 2)),
       (none, .call (some 14) 285 false [((.v 12), false), ((.v 13), false)]),
       (none, .bin 15 .neq (.v 14) (.c (.int .i64 0))),
       (none, .mv 16 (.v 15)),
       (some (16, false), .mv 17 (.v 1)),
       (some (16, false), .len 18 false (.v 17)),
       (some (16, false), .mv 19 (.v 0)),
       (some (16, false), .len 20 false (.v 19)),
       (some (16, false), .bin 21 .neq (.v 18) (.v 20)),
       (none, .pick 22 (.v 16) (.c (.bool true)) (.v 21)),
       (none, .mv 23 (.v 22)),
       (some (23, false), .mv 24 (.v 1)),
       (some (23, false), .call (some 25) 796 false [((.v 24), false), ((.c (.fn 64 [])), false)]),
       (none, .pick 26 (.v 23) (.c (.bool true)) (.v 25))])
     (.cond (.v 26)
      (.seq
       (.region [] [] [6, 7, 8] false [
         (none, .asg 6 (.c (.sl true 1 [])) .copy),
         (none, .asg 7 (.c (.int .i64 0)) .copy),
         (none, .asg 8 (.c (.int .i64 2)) .copy)])
       (.ret [6, 7, 8]))
      (.skip [0, 1, 2])))
    (.seq
     (.region [(29, 1, false), (28, 0, false)] [] [9, 10, 11] false [
       (none, .mv 28 (.v 0)),
       (none, .mv 29 (.v 1)),
       (none, .mv 30 (.v 2)),
       (none, .call (some 31) 258 false [((.v 28), false), ((.v 29), false), ((.v 30), false)]),
       (none, .asg 27 (.v 31) .move),
       (none, .ext 32 (.v 27) 0),
       (none, .extp 33 (.v 27) 1),
       (none, .extp 34 (.v 27) 2),
       (none, .asg 9 (.v 32) .move),
       (none, .asg 10 (.v 33) .copy),
       (none, .asg 11 (.v 34) .copy)])
     (.seq
      (.seq
       (.region [] [] [9, 10, 36] false [
         (none, .mv 35 (.v 11)),
         (none, .un 36 .not (.v 35))])
       (.cond (.v 36)
        (.seq
         (.region [] [] [6, 7, 8] false [
           (none, .asg 6 (.c (.sl true 1 [])) .copy),
           (none, .asg 7 (.c (.int .i64 0)) .copy),
           (none, .asg 8 (.c (.int .i64 3)) .copy)])
         (.ret [6, 7, 8]))
        (.skip [9, 10])))
      (.seq
       (.region [(37, 9, false)] [] [6, 7, 8] false [
         (none, .mv 37 (.v 9)),
         (none, .mv 38 (.v 10)),
         (none, .asg 6 (.v 37) .move),
         (none, .asg 7 (.v 38) .copy),
         (none, .asg 8 (.c (.int .i64 0)) .copy)])
       (.ret [6, 7, 8]))))))⟩
def F86 : PFunc :=
 ⟨[false, false], [.tmp 4, .tmp 5],
  (.seq
   (.region [] [] [0, 1] false [
     (none, .asg 4 (.c (.sl true 1 [])) .copy),
     (none, .asg 5 (.c (.int .i64 0)) .copy)])
   (.seq
    (.seq
     (.region [(10, 0, false)] [] [0, 1, 6] false [
       (none, .mv 10 (.v 0)),
       (none, .mv 11 (.v 1)),
       (none, .call (some 12) 285 false [((.v 10), false), ((.v 11), false)]),
       (none, .asg 6 (.v 12) .copy)])
     (.seq
      (.region [] [] [0, 1, 6, 14] false [
        (none, .mv 13 (.v 6)),
        (none, .bin 14 .neq (.v 13) (.c (.int .i64 0)))])
      (.cond (.v 14)
       (.seq
        (.region [] [] [4, 5] false [
          (none, .mv 15 (.v 6)),
          (none, .asg 4 (.c (.sl true 1 [])) .copy),
          (none, .asg 5 (.v 15) .copy)])
        (.ret [4, 5]))
       (.skip [0, 1]))))
    (.seq
     (.region [(18, 0, false), (17, 0, false)] [] [7, 9] false [
       (none, .mv 17 (.v 0)),
       (none, .mv 18 (.v 0)),
       (none, .len 19 false (.v 18)),
       (none, .make 20 1 (.int .i64 0) (.v 19)),
       (none, .mv 21 (.v 1)),
       (none, .call (some 22) 258 false [((.v 17), false), ((.v 20), false), ((.v 21), false)]),
       (none, .asg 16 (.v 22) .move),
       (none, .ext 23 (.v 16) 0),
       (none, .extp 24 (.v 16) 1),
       (none, .extp 25 (.v 16) 2),
       (none, .asg 7 (.v 23) .move),
       (none, .asg 8 (.v 24) .copy),
       (none, .asg 9 (.v 25) .copy)])
     (.seq
      (.seq
       (.region [] [] [7, 27] false [
         (none, .mv 26 (.v 9)),
         (none, .un 27 .not (.v 26))])
       (.cond (.v 27)
        (.seq
         (.region [] [] [4, 5] false [
           (none, .asg 4 (.c (.sl true 1 [])) .copy),
           (none, .asg 5 (.c (.int .i64 3)) .copy)])
         (.ret [4, 5]))
        (.skip [7])))
      (.seq
       (.region [(28, 7, false)] [] [4, 5] false [
         (none, .mv 28 (.v 7)),
         (none, .asg 4 (.v 28) .move),
         (none, .asg 5 (.c (.int .i64 0)) .copy)])
       (.ret [4, 5]))))))⟩
def F398 : PFunc :=
 ⟨[false], [.tmp 2],
  (.seq
   (.region [] [] [0] false [
     (none, .asg 2 (.c (.bool false)) .copy)])
   (.seq
    (.region [(3, 0, false)] [] [2] false [
      (none, .mv 3 (.v 0)),
      (none, .len 4 false (.v 3)),
      (none, .bin 5 .gtr (.v 4) (.c (.int .i64 4096))),
      (none, .asg 2 (.v 5) .copy)])
    (.ret [2])))⟩
def F400 : PFunc :=
 ⟨[false, false], [.tmp 4],
  (.seq
   (.region [] [] [0, 1] false [
     (none, .asg 4 (.c (.bool false)) .copy)])
   (.seq
    (.seq
     (.region [(8, 1, false), (6, 0, false)] [] [0, 1, 10] false [
       (none, .mv 6 (.v 0)),
       (none, .len 7 false (.v 6)),
       (none, .mv 8 (.v 1)),
       (none, .len 9 false (.v 8)),
       (none, .bin 10 .neq (.v 7) (.v 9))])
     (.cond (.v 10)
      (.seq
       (.region [] [] [4] false [
         (none, .asg 4 (.c (.bool false)) .copy)])
       (.ret [4]))
      (.skip [0, 1])))
    (.seq
     (.seq
      (.region [] [] [0, 1, 5] false [
        (none, .asg 5 (.c (.int .i64 0)) .copy)])
      (.block 0
       (.loop
        (.seq
         (.seq
          (.region [(12, 0, false)] [] [0, 1, 5, 14] false [
            (none, .mv 11 (.v 5)),
            (none, .mv 12 (.v 0)),
            (none, .len 13 false (.v 12)),
            (none, .bin 14 .lss (.v 11) (.v 13))])
          (.cond (.v 14)
           (.skip [0, 1, 5])
           (.exit 0 [])))
         (.seq
          (.block 1
           (.seq
            (.region [(23, 1, false), (21, 1, false), (19, 0, false), (17, 0, false)] [] [0, 1, 5, 25] true [
              (none, .mv 17 (.v 0)),
              (none, .mv 18 (.v 5)),
              (none, .iadr 19 1 (.v 17) (.v 18)),
              (none, .load 20 false 1 (.v 19) none),
              (none, .mv 21 (.v 1)),
              (none, .mv 22 (.v 5)),
              (none, .iadr 23 1 (.v 21) (.v 22)),
              (none, .load 24 false 1 (.v 23) none),
              (none, .bin 25 .neq (.v 20) (.v 24))])
            (.cond (.v 25)
             (.seq
              (.region [] [] [4] false [
                (none, .asg 4 (.c (.bool false)) .copy)])
              (.ret [4]))
             (.skip [0, 1, 5]))))
          (.region [] [] [0, 1, 5] false [
            (none, .mv 15 (.v 5)),
            (none, .bin 16 .add (.v 15) (.c (.int .i64 1))),
            (none, .asg 5 (.v 16) .copy)]))))))
     (.seq
      (.region [] [] [4] false [
        (none, .asg 4 (.c (.bool true)) .copy)])
      (.ret [4])))))⟩
def F401 : PFunc :=
 ⟨[false, false, false], [.tmp 6, .tmp 7],
  (.seq
   (.region [] [] [0, 1, 2] false [
     (none, .asg 6 (.c (.int .i64 0)) .copy),
     (none, .asg 7 (.c (.int .i64 0)) .copy)])
   (.seq
    (.region [] [] [0, 1, 2, 8] false [
      (none, .asg 8 (.c (.int .i64 0)) .copy)])
    (.seq
     (.region [] [] [0, 1, 2, 8, 9] false [
       (none, .asg 9 (.c (.int .i64 0)) .copy)])
     (.seq
      (.seq
       (.region [] [] [0, 1, 2, 8, 9, 10] false [
         (none, .asg 10 (.c (.int .i64 0)) .copy)])
       (.block 0
        (.loop
         (.seq
          (.seq
           (.region [(12, 2, false)] [] [0, 1, 2, 8, 9, 10, 14] false [
             (none, .mv 11 (.v 10)),
             (none, .mv 12 (.v 2)),
             (none, .len 13 false (.v 12)),
             (none, .bin 14 .lss (.v 11) (.v 13))])
           (.cond (.v 14)
            (.skip [0, 1, 2, 8, 9, 10])
            (.exit 0 [8, 9])))
          (.seq
           (.block 1
            (.seq
             (.region [(23, 0, false), (21, 2, false), (19, 2, false), (18, 0, false)] [] [0, 1, 2, 8, 9, 10] false [
               (none, .mv 17 (.v 8)),
               (none, .mv 18 (.v 0)),
               (none, .mv 19 (.v 2)),
               (none, .mv 20 (.v 10)),
               (none, .iadr 21 1 (.v 19) (.v 20)),
               (none, .load 22 false 1 (.v 21) none),
               (none, .iadr 23 1 (.v 18) (.v 22)),
               (none, .load 24 false 1 (.v 23) none),
               (none, .bin 25 .add (.v 17) (.v 24)),
               (none, .asg 8 (.v 25) .copy)])
             (.region [(32, 1, false), (30, 2, false), (28, 2, false), (27, 1, false)] [] [0, 1, 2, 8, 9, 10] false [
               (none, .mv 26 (.v 9)),
               (none, .mv 27 (.v 1)),
               (none, .mv 28 (.v 2)),
               (none, .mv 29 (.v 10)),
               (none, .iadr 30 1 (.v 28) (.v 29)),
               (none, .load 31 false 1 (.v 30) none),
               (none, .iadr 32 1 (.v 27) (.v 31)),
               (none, .load 33 false 1 (.v 32) none),
               (none, .bin 34 .add (.v 26) (.v 33)),
               (none, .asg 9 (.v 34) .copy)])))
           (.region [] [] [0, 1, 2, 8, 9, 10] false [
             (none, .mv 15 (.v 10)),
             (none, .bin 16 .add (.v 15) (.c (.int .i64 1))),
             (none, .asg 10 (.v 16) .copy)]))))))
      (.seq
       (.region [] [] [6, 7] false [
         (none, .mv 35 (.v 8)),
         (none, .mv 36 (.v 9)),
         (none, .asg 6 (.v 35) .copy),
         (none, .asg 7 (.v 36) .copy)])
       (.ret [6, 7]))))))⟩
def F605 : PFunc :=
 ⟨[false, false, false], [.tmp 6],
  (.seq
   (.region [] [] [0, 1, 2] false [
     (none, .asg 6 (.c (.bool false)) .copy)])
   (.seq
    (.region [] [] [6] false [
      (none, .mv 7 (.v 0)),
      (none, .mv 8 (.v 1)),
      (none, .bin 9 .geq (.v 7) (.v 8)),
      (none, .mv 10 (.v 9)),
      (some (10, true), .mv 11 (.v 0)),
      (some (10, true), .mv 12 (.v 2)),
      (some (10, true), .bin 13 .leq (.v 11) (.v 12)),
      (none, .pick 14 (.v 10) (.v 13) (.c (.bool false))),
      (none, .asg 6 (.v 14) .copy)])
    (.ret [6])))⟩
def F678 : PFunc :=
 ⟨[false, false], [.tmp 4],
  (.seq
   (.region [] [] [0, 1] false [
     (none, .asg 4 (.c (.bool false)) .copy)])
   (.seq
    (.seq
     (.region [(8, 1, false), (6, 0, false)] [] [0, 1, 10] false [
       (none, .mv 6 (.v 0)),
       (none, .len 7 false (.v 6)),
       (none, .mv 8 (.v 1)),
       (none, .len 9 false (.v 8)),
       (none, .bin 10 .neq (.v 7) (.v 9))])
     (.cond (.v 10)
      (.seq
       (.region [(13, 1, false), (11, 0, false)] [] [4] false [
         (none, .mv 11 (.v 0)),
         (none, .len 12 false (.v 11)),
         (none, .mv 13 (.v 1)),
         (none, .len 14 false (.v 13)),
         (none, .bin 15 .lss (.v 12) (.v 14)),
         (none, .asg 4 (.v 15) .copy)])
       (.ret [4]))
      (.skip [0, 1])))
    (.seq
     (.seq
      (.region [] [] [0, 1, 5] false [
        (none, .asg 5 (.c (.int .i64 0)) .copy)])
      (.block 0
       (.loop
        (.seq
         (.seq
          (.region [(17, 0, false)] [] [0, 1, 5, 19] false [
            (none, .mv 16 (.v 5)),
            (none, .mv 17 (.v 0)),
            (none, .len 18 false (.v 17)),
            (none, .bin 19 .lss (.v 16) (.v 18))])
          (.cond (.v 19)
           (.skip [0, 1, 5])
           (.exit 0 [])))
         (.seq
          (.block 1
           (.seq
            (.region [(28, 1, false), (26, 1, false), (24, 0, false), (22, 0, false)] [] [0, 1, 5, 30] true [
              (none, .mv 22 (.v 0)),
              (none, .mv 23 (.v 5)),
              (none, .iadr 24 1 (.v 22) (.v 23)),
              (none, .load 25 false 1 (.v 24) none),
              (none, .mv 26 (.v 1)),
              (none, .mv 27 (.v 5)),
              (none, .iadr 28 1 (.v 26) (.v 27)),
              (none, .load 29 false 1 (.v 28) none),
              (none, .bin 30 .neq (.v 25) (.v 29))])
            (.cond (.v 30)
             (.seq
              (.region [(37, 1, false), (35, 1, false), (33, 0, false), (31, 0, false)] [] [4] true [
                (none, .mv 31 (.v 0)),
                (none, .mv 32 (.v 5)),
                (none, .iadr 33 1 (.v 31) (.v 32)),
                (none, .load 34 false 1 (.v 33) none),
                (none, .mv 35 (.v 1)),
                (none, .mv 36 (.v 5)),
                (none, .iadr 37 1 (.v 35) (.v 36)),
                (none, .load 38 false 1 (.v 37) none),
                (none, .bin 39 .lss (.v 34) (.v 38)),
                (none, .asg 4 (.v 39) .copy)])
              (.ret [4]))
             (.skip [0, 1, 5]))))
          (.region [] [] [0, 1, 5] false [
            (none, .mv 20 (.v 5)),
            (none, .bin 21 .add (.v 20) (.c (.int .i64 1))),
            (none, .asg 5 (.v 21) .copy)]))))))
     (.seq
      (.region [] [] [4] false [
        (none, .asg 4 (.c (.bool false)) .copy)])
      (.ret [4])))))⟩
def F695 : PFunc :=
 ⟨[false], [.tmp 2],
  (.seq
   (.region [] [] [0] false [
     (none, .asg 2 (.c (.bool false)) .copy)])
   (.seq
    (.seq
     (.region [] [] [0, 3] false [
       (none, .asg 3 (.c (.int .i64 0)) .copy)])
     (.block 0
      (.loop
       (.seq
        (.seq
         (.region [(5, 0, false)] [] [0, 3, 7] false [
           (none, .mv 4 (.v 3)),
           (none, .mv 5 (.v 0)),
           (none, .len 6 false (.v 5)),
           (none, .bin 7 .lss (.v 4) (.v 6))])
         (.cond (.v 7)
          (.skip [0, 3])
          (.exit 0 [0])))
        (.seq
         (.block 1
          (.seq
           (.region [(12, 0, false), (10, 0, false)] [] [0, 3, 15] false [
             (none, .mv 10 (.v 0)),
             (none, .mv 11 (.v 3)),
             (none, .iadr 12 1 (.v 10) (.v 11)),
             (none, .load 13 false 1 (.v 12) none),
             (none, .call (some 14) 605 false [((.v 13), false), ((.c (.int .i64 1)), false), ((.c (.int .i64 100000)), false)]),
             (none, .un 15 .not (.v 14))])
           (.cond (.v 15)
            (.seq
             (.region [] [] [2] false [
               (none, .asg 2 (.c (.bool false)) .copy)])
             (.ret [2]))
            (.skip [0, 3]))))
         (.region [] [] [0, 3] false [
           (none, .mv 8 (.v 3)),
           (none, .bin 9 .add (.v 8) (.c (.int .i64 1))),
           (none, .asg 3 (.v 9) .copy)]))))))
    (.seq
     (.region [(16, 0, false)] [] [2] false [
       (none, .mv 16 (.v 0)),
       (none, .len 17 false (.v 16)),
       (none, .bin 18 .leq (.v 17) (.c (.int .i64 8))),
       (none, .asg 2 (.v 18) .copy)])
     (.ret [2]))))⟩
def F696 : PFunc :=
 ⟨[false, false], [.tmp 4],
  (.seq
   (.region [] [] [0, 1] false [
     (none, .asg 4 (.c (.int .i64 0)) .copy)])
   (.seq
    (.seq
     (.region [(5, 0, false)] [] [12] false [
       (none, .mv 5 (.v 0)),
       (none, .call (some 6) 695 false [((.v 5), false)]),
       (none, .un 7 .not (.v 6)),
       (none, .mv 8 (.v 7)),
       (some (8, false), .mv 9 (.v 1)),
       (some (8, false), .call (some 10) 605 false [((.v 9), false), ((.c (.int .i64 0)), false), ((.c (.int .i64 100000)), false)]),
       (some (8, false), .un 11 .not (.v 10)),
       (none, .pick 12 (.v 8) (.c (.bool true)) (.v 11))])
     (.cond (.v 12)
      (.seq
       (.region [] [] [4] false [
         (none, .asg 4 (.c (.int .i64 2)) .copy)])
       (.ret [4]))
      (.skip [])))
    (.seq
     (.region [] [] [4] false [
       (none, .asg 4 (.c (.int .i64 0)) .copy)])
     (.ret [4]))))⟩
def F698 : PFunc :=
 ⟨[false, false], [.tmp 4],
  (.seq
   (.region [] [] [0, 1] false [
     (none, .asg 4 (.c (.sl true 1 [])) .copy)])
   (.seq
    (.region [] [] [0, 1, 5] false [
      (none, .mksl 7 1 (.int .i64 0) 0 []),
      (none, .asg 5 (.v 7) .move)])
    (.seq
     (.seq
      (.region [] [] [0, 1, 5, 6] false [
        (none, .asg 6 (.c (.int .i64 0)) .copy)])
      (.block 0
       (.loop
        (.seq
         (.seq
          (.region [] [] [0, 1, 5, 6, 10] false [
            (none, .mv 8 (.v 6)),
            (none, .mv 9 (.v 0)),
            (none, .bin 10 .lss (.v 8) (.v 9))])
          (.cond (.v 10)
           (.skip [0, 1, 5, 6])
           (.exit 0 [5])))
         (.seq
          (.block 1
           (.seq
            (.region [] [] [0, 1, 5, 6, 18] false [
              (none, .mv 13 (.v 1)),
              (none, .mv 14 (.v 6)),
              (none, .conv 15 .u64 (.v 14)),
              (none, .bin 16 .shr (.v 13) (.v 15)),
              (none, .bin 17 .and (.v 16) (.c (.int .i64 1))),
              (none, .bin 18 .eql (.v 17) (.c (.int .i64 1)))])
            (.cond (.v 18)
             (.region [(19, 5, false)] [] [0, 1, 5, 6] false [
               (none, .mv 19 (.v 5)),
               (none, .mv 20 (.v 6)),
               (none, .mksl 21 1 (.int .i64 0) 1 [(0, (.v 20), .copy)]),
               (none, .app 22 1 (.v 19) (.v 21) .move),
               (none, .asg 5 (.v 22) .move)])
             (.skip [0, 1, 5, 6]))))
          (.region [] [] [0, 1, 5, 6] false [
            (none, .mv 11 (.v 6)),
            (none, .bin 12 .add (.v 11) (.c (.int .i64 1))),
            (none, .asg 6 (.v 12) .copy)]))))))
     (.seq
      (.region [(23, 5, false)] [] [4] false [
        (none, .mv 23 (.v 5)),
        (none, .asg 4 (.v 23) .move)])
      (.ret [4])))))⟩
def F699 : PFunc :=
 ⟨[false, false], [.tmp 4],
  (.seq
   (.region [] [] [0, 1] false [
     (none, .asg 4 (.c (.int .i64 0)) .copy)])
   (.seq
    (.region [] [] [0, 1, 5] false [
      (none, .asg 5 (.c (.int .i64 0)) .copy)])
    (.seq
     (.seq
      (.region [] [] [0, 1, 5, 6] false [
        (none, .asg 6 (.c (.int .i64 0)) .copy)])
      (.block 0
       (.loop
        (.seq
         (.seq
          (.region [(8, 0, false)] [] [0, 1, 5, 6, 10] false [
            (none, .mv 7 (.v 6)),
            (none, .mv 8 (.v 0)),
            (none, .len 9 false (.v 8)),
            (none, .bin 10 .lss (.v 7) (.v 9))])
          (.cond (.v 10)
           (.skip [0, 1, 5, 6])
           (.exit 0 [5])))
         (.seq
          (.block 1
           (.seq
            (.region [] [] [0, 1, 5, 6, 18] false [
              (none, .mv 13 (.v 1)),
              (none, .mv 14 (.v 6)),
              (none, .conv 15 .u64 (.v 14)),
              (none, .bin 16 .shr (.v 13) (.v 15)),
              (none, .bin 17 .and (.v 16) (.c (.int .i64 1))),
              (none, .bin 18 .eql (.v 17) (.c (.int .i64 1)))])
            (.cond (.v 18)
             (.region [(22, 0, false), (20, 0, false)] [] [0, 1, 5, 6] false [
               (none, .mv 19 (.v 5)),
               (none, .mv 20 (.v 0)),
               (none, .mv 21 (.v 6)),
               (none, .iadr 22 1 (.v 20) (.v 21)),
               (none, .load 23 false 1 (.v 22) none),
               (none, .bin 24 .add (.v 19) (.v 23)),
               (none, .asg 5 (.v 24) .copy)])
             (.skip [0, 1, 5, 6]))))
          (.region [] [] [0, 1, 5, 6] false [
            (none, .mv 11 (.v 6)),
            (none, .bin 12 .add (.v 11) (.c (.int .i64 1))),
            (none, .asg 6 (.v 12) .copy)]))))))
     (.seq
      (.region [] [] [4] false [
        (none, .mv 25 (.v 5)),
        (none, .asg 4 (.v 25) .copy)])
      (.ret [4])))))⟩
def F447 : PFunc :=
 ⟨[false, false, false], [.tmp 6, .tmp 7, .tmp 8],
  (.seq
   (.region [] [] [0, 1, 2] false [
     (none, .asg 6 (.c (.sl true 1 [])) .copy),
     (none, .asg 7 (.c (.int .i64 0)) .copy),
     (none, .asg 8 (.c (.int .i64 0)) .copy)])
   (.seq
    (.region [(13, 0, false)] [] [0, 1, 2, 9] false [
      (none, .mv 13 (.v 0)),
      (none, .mv 14 (.v 2)),
      (none, .call (some 15) 696 false [((.v 13), false), ((.v 14), false)]),
      (none, .asg 9 (.v 15) .copy)])
    (.seq
     (.seq
      (.region [] [] [0, 1, 2, 9, 17] false [
        (none, .mv 16 (.v 9)),
        (none, .bin 17 .neq (.v 16) (.c (.int .i64 0)))])
      (.cond (.v 17)
       (.seq
        (.region [] [] [6, 7, 8] false [
          (none, .mv 18 (.v 9)),
          (none, .asg 6 (.c (.sl true 1 [])) .copy),
          (none, .asg 7 (.c (.int .i64 0)) .copy),
          (none, .asg 8 (.v 18) .copy)])
        (.ret [6, 7, 8]))
       (.skip [0, 1, 2])))
     (.seq
      (.seq
       (.region [] [] [0, 1, 2, 10] false [
         (none, .asg 10 (.c (.int .i64 0)) .copy)])
       (.block 0
        (.loop
         (.seq
          (.seq
           (.region [(20, 1, false)] [] [0, 1, 2, 10, 22] false [
             (none, .mv 19 (.v 10)),
             (none, .mv 20 (.v 1)),
             (none, .len 21 false (.v 20)),
             (none, .bin 22 .lss (.v 19) (.v 21))])
           (.cond (.v 22)
            (.skip [0, 1, 2, 10])
            (.exit 0 [0, 1, 2])))
          (.seq
           (.block 1
            (.seq
             (.region [(27, 1, false), (25, 1, false)] [] [0, 1, 2, 10, 30] false [
               (none, .mv 25 (.v 1)),
               (none, .mv 26 (.v 10)),
               (none, .iadr 27 1 (.v 25) (.v 26)),
               (none, .load 28 false 1 (.v 27) none),
               (none, .call (some 29) 605 false [((.v 28), false), ((.c (.int .i64 0)), false), ((.c (.int .i64 100000)), false)]),
               (none, .un 30 .not (.v 29))])
             (.cond (.v 30)
              (.seq
               (.region [] [] [6, 7, 8] false [
                 (none, .asg 6 (.c (.sl true 1 [])) .copy),
                 (none, .asg 7 (.c (.int .i64 0)) .copy),
                 (none, .asg 8 (.c (.int .i64 2)) .copy)])
               (.ret [6, 7, 8]))
              (.skip [0, 1, 2, 10]))))
           (.region [] [] [0, 1, 2, 10] false [
             (none, .mv 23 (.v 10)),
             (none, .bin 24 .add (.v 23) (.c (.int .i64 1))),
             (none, .asg 10 (.v 24) .copy)]))))))
      (.seq
       (.seq
        (.region [(33, 0, false), (31, 1, false)] [] [0, 1, 2, 35] false [
          (none, .mv 31 (.v 1)),
          (none, .len 32 false (.v 31)),
          (none, .mv 33 (.v 0)),
          (none, .len 34 false (.v 33)),
          (none, .bin 35 .neq (.v 32) (.v 34))])
        (.cond (.v 35)
         (.seq
          (.region [] [] [6, 7, 8] false [
            (none, .asg 6 (.c (.sl true 1 [])) .copy),
            (none, .asg 7 (.c (.int .i64 0)) .copy),
            (none, .asg 8 (.c (.int .i64 2)) .copy)])
          (.ret [6, 7, 8]))
         (.skip [0, 1, 2])))
       (.seq
        (.region [] [] [0, 1, 2, 11] false [
          (none, .asg 11 (.c (.int .i64 (-1))) .copy)])
        (.seq
         (.seq
          (.region [] [] [0, 1, 2, 11, 12] false [
            (none, .asg 12 (.c (.int .i64 0)) .copy)])
          (.block 2
           (.loop
            (.seq
             (.seq
              (.region [(37, 0, false)] [] [0, 1, 2, 11, 12, 41] false [
                (none, .mv 36 (.v 12)),
                (none, .mv 37 (.v 0)),
                (none, .len 38 false (.v 37)),
                (none, .conv 39 .u64 (.v 38)),
                (none, .bin 40 .shl (.c (.int .i64 1)) (.v 39)),
                (none, .bin 41 .lss (.v 36) (.v 40))])
              (.cond (.v 41)
               (.skip [0, 1, 2, 11, 12])
               (.exit 2 [0, 1, 11])))
             (.seq
              (.block 3
               (.seq
                (.seq
                 (.region [(44, 0, false)] [] [0, 1, 2, 11, 12, 48] false [
                   (none, .mv 44 (.v 0)),
                   (none, .mv 45 (.v 12)),
                   (none, .call (some 46) 699 false [((.v 44), false), ((.v 45), false)]),
                   (none, .mv 47 (.v 2)),
                   (none, .bin 48 .lss (.v 46) (.v 47))])
                 (.cond (.v 48)
                  (.exit 3 [0, 1, 2, 11, 12])
                  (.skip [0, 1, 2, 11, 12])))
                (.seq
                 (.region [(73, 0, false), (69, 0, false), (64, 1, false), (61, 1, false), (55, 1, false), (52, 1, false)] [] [0, 1, 2, 11, 12, 79] false [
                   (none, .mv 49 (.v 11)),
                   (none, .bin 50 .lss (.v 49) (.c (.int .i64 0))),
                   (none, .mv 51 (.v 50)),
                   (some (51, false), .mv 52 (.v 1)),
                   (some (51, false), .mv 53 (.v 12)),
                   (some (51, false), .call (some 54) 699 false [((.v 52), false), ((.v 53), false)]),
                   (some (51, false), .mv 55 (.v 1)),
                   (some (51, false), .mv 56 (.v 11)),
                   (some (51, false), .call (some 57) 699 false [((.v 55), false), ((.v 56), false)]),
                   (some (51, false), .bin 58 .lss (.v 54) (.v 57)),
                   (none, .pick 59 (.v 51) (.c (.bool true)) (.v 58)),
                   (none, .mv 60 (.v 59)),
                   (some (60, false), .mv 61 (.v 1)),
                   (some (60, false), .mv 62 (.v 12)),
                   (some (60, false), .call (some 63) 699 false [((.v 61), false), ((.v 62), false)]),
                   (some (60, false), .mv 64 (.v 1)),
                   (some (60, false), .mv 65 (.v 11)),
                   (some (60, false), .call (some 66) 699 false [((.v 64), false), ((.v 65), false)]),
                   (some (60, false), .bin 67 .eql (.v 63) (.v 66)),
                   (some (60, false), .mv 68 (.v 67)),
                   (some (68, true), .mv 69 (.v 0)),
                   (some (68, true), .len 70 false (.v 69)),
                   (some (68, true), .mv 71 (.v 12)),
                   (some (68, true), .call (some 72) 698 false [((.v 70), false), ((.v 71), false)]),
                   (some (68, true), .mv 73 (.v 0)),
                   (some (68, true), .len 74 false (.v 73)),
                   (some (68, true), .mv 75 (.v 11)),
                   (some (68, true), .call (some 76) 698 false [((.v 74), false), ((.v 75), false)]),
                   (some (68, true), .call (some 77) 678 false [((.v 72), false), ((.v 76), false)]),
                   (some (60, false), .pick 78 (.v 68) (.v 77) (.c (.bool false))),
                   (none, .pick 79 (.v 60) (.c (.bool true)) (.v 78))])
                 (.cond (.v 79)
                  (.region [] [] [0, 1, 2, 11, 12] false [
                    (none, .mv 80 (.v 12)),
                    (none, .asg 11 (.v 80) .copy)])
                  (.skip [0, 1, 2, 11, 12])))))
              (.region [] [] [0, 1, 2, 11, 12] false [
                (none, .mv 42 (.v 12)),
                (none, .bin 43 .add (.v 42) (.c (.int .i64 1))),
                (none, .asg 12 (.v 43) .copy)]))))))
         (.seq
          (.seq
           (.region [] [] [0, 1, 11, 82] false [
             (none, .mv 81 (.v 11)),
             (none, .bin 82 .lss (.v 81) (.c (.int .i64 0)))])
           (.cond (.v 82)
            (.seq
             (.region [] [] [6, 7, 8] false [
               (none, .asg 6 (.c (.sl true 1 [])) .copy),
               (none, .asg 7 (.c (.int .i64 0)) .copy),
               (none, .asg 8 (.c (.int .i64 3)) .copy)])
             (.ret [6, 7, 8]))
            (.skip [0, 1, 11])))
          (.seq
           (.region [(87, 1, false), (83, 0, false)] [] [6, 7, 8] false [
             (none, .mv 83 (.v 0)),
             (none, .len 84 false (.v 83)),
             (none, .mv 85 (.v 11)),
             (none, .call (some 86) 698 false [((.v 84), false), ((.v 85), false)]),
             (none, .mv 87 (.v 1)),
             (none, .mv 88 (.v 11)),
             (none, .call (some 89) 699 false [((.v 87), false), ((.v 88), false)]),
             (none, .asg 6 (.v 86) .move),
             (none, .asg 7 (.v 89) .copy),
             (none, .asg 8 (.c (.int .i64 0)) .copy)])
           (.ret [6, 7, 8]))))))))))⟩
def F5 : PFunc :=
 ⟨[true], [.tmp 2],
  (.seq
   (.region [] [] [0] false [
     (none, .asg 2 (.c (.int .i64 0)) .copy)])
   (.seq
    (.region [] [] [0, 3] false [
      (none, .asg 3 (.c (.int .i64 0)) .copy)])
    (.seq
     (.seq
      (.region [(11, 0, true), (10, 0, false), (9, 0, false), (8, 0, false), (6, 0, false), (5, 0, false), (4, 0, false)] [] [0, 3, 13] true [
        (none, .mv 4 (.v 0)),
        (none, .nchk 5 (.v 4)),
        (none, .fadr 6 1 1 (.v 5)),
        (none, .load 7 false 1 (.v 6) none),
        (none, .mv 8 (.v 0)),
        (none, .nchk 9 (.v 8)),
        (none, .fadr 10 0 1 (.v 9)),
        (none, .load 11 false 1 (.v 10) none),
        (none, .len 12 false (.v 11)),
        (none, .bin 13 .lss (.v 7) (.v 12))])
      (.cond (.v 13)
       (.region [(22, 0, true), (20, 0, false), (19, 0, false), (18, 0, false), (17, 0, true), (16, 0, false), (15, 0, false), (14, 0, false)] [] [0, 3] true [
         (none, .mv 14 (.v 0)),
         (none, .nchk 15 (.v 14)),
         (none, .fadr 16 0 1 (.v 15)),
         (none, .load 17 false 1 (.v 16) none),
         (none, .mv 18 (.v 0)),
         (none, .nchk 19 (.v 18)),
         (none, .fadr 20 1 1 (.v 19)),
         (none, .load 21 false 1 (.v 20) none),
         (none, .iadr 22 1 (.v 17) (.v 21)),
         (none, .load 23 false 1 (.v 22) none),
         (none, .conv 24 .i64 (.v 23)),
         (none, .asg 3 (.v 24) .copy)])
       (.skip [0, 3])))
     (.seq
      (.region [(31, 0, false), (30, 0, false), (27, 0, false), (26, 0, false), (25, 0, false)] [] [0, 3] false [
        (none, .mv 25 (.v 0)),
        (none, .nchk 26 (.v 25)),
        (none, .fadr 27 1 1 (.v 26)),
        (none, .load 28 false 1 (.v 27) none),
        (none, .bin 29 .add (.v 28) (.c (.int .i64 1))),
        (none, .nchk 30 (.v 25)),
        (none, .fadr 31 1 1 (.v 30)),
        (none, .store 1 (.v 31) (.v 29) .copy)])
      (.seq
       (.region [(43, 0, false), (42, 0, false), (35, 0, false), (34, 0, false), (33, 0, false), (32, 0, false)] [] [0, 3] false [
         (none, .mv 32 (.v 0)),
         (none, .mv 33 (.v 0)),
         (none, .nchk 34 (.v 33)),
         (none, .fadr 35 2 1 (.v 34)),
         (none, .load 36 false 1 (.v 35) none),
         (none, .bin 37 .mul (.v 36) (.c (.int .u64 6364136223846793005))),
         (none, .mv 38 (.v 3)),
         (none, .conv 39 .u64 (.v 38)),
         (none, .bin 40 .add (.v 37) (.v 39)),
         (none, .bin 41 .add (.v 40) (.c (.int .u64 1442695040888963407))),
         (none, .nchk 42 (.v 32)),
         (none, .fadr 43 2 1 (.v 42)),
         (none, .store 1 (.v 43) (.v 41) .copy)])
       (.seq
        (.seq
         (.region [(51, 0, true), (50, 0, false), (49, 0, false), (48, 0, false), (46, 0, false), (45, 0, false), (44, 0, false)] [] [0, 3, 53] true [
           (none, .mv 44 (.v 0)),
           (none, .nchk 45 (.v 44)),
           (none, .fadr 46 1 1 (.v 45)),
           (none, .load 47 false 1 (.v 46) none),
           (none, .mv 48 (.v 0)),
           (none, .nchk 49 (.v 48)),
           (none, .fadr 50 0 1 (.v 49)),
           (none, .load 51 false 1 (.v 50) none),
           (none, .len 52 false (.v 51)),
           (none, .bin 53 .leq (.v 47) (.v 52))])
         (.cond (.v 53)
          (.seq
           (.region [] [] [0, 2] false [
             (none, .mv 54 (.v 3)),
             (none, .asg 2 (.v 54) .copy)])
           (.ret [0, 2]))
          (.skip [0])))
        (.seq
         (.region [(57, 0, false), (56, 0, false), (55, 0, false)] [] [0, 2] false [
           (none, .mv 55 (.v 0)),
           (none, .nchk 56 (.v 55)),
           (none, .fadr 57 2 1 (.v 56)),
           (none, .load 58 false 1 (.v 57) none),
           (none, .bin 59 .shr (.v 58) (.c (.int .u64 40))),
           (none, .bin 60 .and (.v 59) (.c (.int .u64 255))),
           (none, .conv 61 .i64 (.v 60)),
           (none, .asg 2 (.v 61) .copy)])
         (.ret [0, 2]))))))))⟩
def F7 : PFunc :=
 ⟨[true, false], [.tmp 4],
  (.seq
   (.region [] [] [0, 1] false [
     (none, .asg 4 (.c (.int .i64 0)) .copy)])
   (.seq
    (.seq
     (.region [] [] [0, 1, 7] false [
       (none, .mv 6 (.v 1)),
       (none, .bin 7 .leq (.v 6) (.c (.int .i64 1)))])
     (.cond (.v 7)
      (.seq
       (.region [] [] [0, 4] false [
         (none, .asg 4 (.c (.int .i64 0)) .copy)])
       (.ret [0, 4]))
      (.skip [0, 1])))
    (.seq
     (.region [(8, 0, false)] [] [0, 1, 5] false [
       (none, .mv 8 (.v 0)),
       (none, .call (some 9) 5 true [((.v 8), true)]),
       (none, .asg 5 (.v 9) .copy)])
     (.seq
      (.seq
       (.region [] [] [0, 1, 5, 11] false [
         (none, .mv 10 (.v 1)),
         (none, .bin 11 .gtr (.v 10) (.c (.int .i64 200)))])
       (.cond (.v 11)
        (.region [(14, 0, false)] [] [0, 1, 5] false [
          (none, .mv 12 (.v 5)),
          (none, .bin 13 .mul (.v 12) (.c (.int .i64 256))),
          (none, .mv 14 (.v 0)),
          (none, .call (some 15) 5 true [((.v 14), true)]),
          (none, .bin 16 .add (.v 13) (.v 15)),
          (none, .asg 5 (.v 16) .copy)])
        (.skip [0, 1, 5])))
      (.seq
       (.region [] [] [0, 4] false [
         (none, .mv 17 (.v 5)),
         (none, .mv 18 (.v 1)),
         (none, .bin 19 .rem (.v 17) (.v 18)),
         (none, .asg 4 (.v 19) .copy)])
       (.ret [0, 4]))))))⟩
def F4 : PFunc :=
 ⟨[true, false], [.tmp 4],
  (.seq
   (.region [] [] [0, 1] false [
     (none, .asg 4 (.c (.int .i64 0)) .copy)])
   (.seq
    (.region [(10, 1, false), (7, 1, false), (6, 0, false), (5, 1, false)] [] [0, 4] false [
      (none, .mv 5 (.v 1)),
      (none, .mv 6 (.v 0)),
      (none, .mv 7 (.v 1)),
      (none, .len 8 false (.v 7)),
      (none, .call (some 9) 7 true [((.v 6), true), ((.v 8), false)]),
      (none, .iadr 10 1 (.v 5) (.v 9)),
      (none, .load 11 false 1 (.v 10) none),
      (none, .asg 4 (.v 11) .copy)])
    (.ret [0, 4])))⟩
def F603 : PFunc :=
 ⟨[false], [.tmp 2],
  (.seq
   (.region [] [] [0] false [
     (none, .asg 2 (.c .nilp) .copy)])
   (.seq
    (.region [(3, 0, false)] [] [2] false [
      (none, .mv 3 (.v 0)),
      (none, .build 4 [(.sl false 1 []), (.int .i64 0), (.int .u64 0)] [(0, 1, (.v 3), .move)]),
      (none, .box 5 (.v 4) .move),
      (none, .asg 2 (.v 5) .move)])
    (.ret [2])))⟩
def F6 : PFunc :=
 ⟨[true, false], [.tmp 4],
  (.seq
   (.region [] [] [0, 1] false [
     (none, .asg 4 (.c (.bool false)) .copy)])
   (.seq
    (.region [(5, 0, false)] [] [0, 4] false [
      (none, .mv 5 (.v 0)),
      (none, .mv 6 (.v 1)),
      (none, .call (some 7) 7 true [((.v 5), true), ((.v 6), false)]),
      (none, .bin 8 .eql (.v 7) (.c (.int .i64 0))),
      (none, .asg 4 (.v 8) .copy)])
    (.ret [0, 4])))⟩
def F689 : PFunc :=
 ⟨[true], [.tmp 2],
  (.seq
   (.region [] [] [0] false [
     (none, .asg 2 (.c (.sl true 1 [])) .copy)])
   (.seq
    (.region [] [] [0, 3] false [
      (none, .mksl 6 1 (.int .i64 0) 0 []),
      (none, .asg 3 (.v 6) .move)])
    (.seq
     (.region [(7, 0, false)] [] [0, 3, 4] false [
       (none, .mv 7 (.v 0)),
       (none, .call (some 8) 7 true [((.v 7), true), ((.c (.int .i64 6)), false)]),
       (none, .asg 4 (.v 8) .copy)])
     (.seq
      (.seq
       (.region [(9, 0, false)] [] [0, 3, 4, 10] false [
         (none, .mv 9 (.v 0)),
         (none, .call (some 10) 6 true [((.v 9), true), ((.c (.int .i64 20)), false)])])
       (.cond (.v 10)
        (.region [(11, 0, false)] [] [0, 3, 4] false [
          (none, .mv 11 (.v 0)),
          (none, .call (some 12) 7 true [((.v 11), true), ((.c (.int .i64 2)), false)]),
          (none, .bin 13 .add (.c (.int .i64 8)) (.v 12)),
          (none, .asg 4 (.v 13) .copy)])
        (.skip [0, 3, 4])))
      (.seq
       (.seq
        (.region [] [] [0, 3, 4, 5] false [
          (none, .mv 14 (.v 4)),
          (none, .asg 5 (.v 14) .copy)])
        (.block 0
         (.loop
          (.seq
           (.seq
            (.region [] [] [0, 3, 4, 5, 16] false [
              (none, .mv 15 (.v 5)),
              (none, .bin 16 .gtr (.v 15) (.c (.int .i64 0)))])
            (.cond (.v 16)
             (.skip [0, 3, 4, 5])
             (.exit 0 [0, 3, 4])))
           (.seq
            (.block 1
             (.region [(20, 0, false), (19, 3, false)] [] [0, 3, 4, 5] false [
               (none, .mv 19 (.v 3)),
               (none, .mv 20 (.v 0)),
               (none, .call (some 21) 7 true [((.v 20), true), ((.c (.int .i64 20)), false)]),
               (none, .bin 22 .add (.c (.int .i64 1)) (.v 21)),
               (none, .bin 23 .mul (.c (.int .i64 100)) (.v 22)),
               (none, .mksl 24 1 (.int .i64 0) 1 [(0, (.v 23), .copy)]),
               (none, .app 25 1 (.v 19) (.v 24) .move),
               (none, .asg 3 (.v 25) .move)]))
            (.region [] [] [0, 3, 4, 5] false [
              (none, .mv 17 (.v 5)),
              (none, .bin 18 .sub (.v 17) (.c (.int .i64 1))),
              (none, .asg 5 (.v 18) .copy)]))))))
       (.seq
        (.seq
         (.region [(29, 0, false)] [] [0, 3, 31] false [
           (none, .mv 26 (.v 4)),
           (none, .bin 27 .gtr (.v 26) (.c (.int .i64 0))),
           (none, .mv 28 (.v 27)),
           (some (28, true), .mv 29 (.v 0)),
           (some (28, true), .call (some 30) 6 true [((.v 29), true), ((.c (.int .i64 12)), false)]),
           (none, .pick 31 (.v 28) (.v 30) (.c (.bool false)))])
         (.cond (.v 31)
          (.region [(36, 3, false), (33, 0, false), (32, 3, false)] [] [0, 3] false [
            (none, .mv 32 (.v 3)),
            (none, .mv 33 (.v 0)),
            (none, .mksl 34 1 (.int .i64 0) 5 [(0, (.c (.int .i64 (-1))), .copy), (1, (.c (.int .i64 0)), .copy), (2, (.c (.int .i64 1)), .copy), (3, (.c (.int .i64 100000)), .copy), (4, (.c (.int .i64 100001)), .copy)]),
            (none, .call (some 35) 4 true [((.v 33), true), ((.v 34), false)]),
            (none, .iadr 36 1 (.v 32) (.c (.int .i64 0))),
            (none, .store 1 (.v 36) (.v 35) .copy)])
          (.skip [0, 3])))
        (.seq
         (.region [(37, 3, false)] [] [0, 2] false [
           (none, .mv 37 (.v 3)),
           (none, .asg 2 (.v 37) .move)])
         (.ret [0, 2]))))))))⟩
def F691 : PFunc :=
 ⟨[true], [.tmp 2],
  (.seq
   (.region [] [] [0] false [
     (none, .asg 2 (.c (.int .i64 0)) .copy)])
   (.seq
    (.seq
     (.region [(3, 0, false)] [] [0, 4] false [
       (none, .mv 3 (.v 0)),
       (none, .call (some 4) 6 true [((.v 3), true), ((.c (.int .i64 10)), false)])])
     (.cond (.v 4)
      (.seq
       (.region [(5, 0, false)] [] [0, 2] false [
         (none, .mv 5 (.v 0)),
         (none, .mksl 6 1 (.int .i64 0) 4 [(0, (.c (.int .i64 (-1))), .copy), (1, (.c (.int .i64 0)), .copy), (2, (.c (.int .i64 100000)), .copy), (3, (.c (.int .i64 100001)), .copy)]),
         (none, .call (some 7) 4 true [((.v 5), true), ((.v 6), false)]),
         (none, .asg 2 (.v 7) .copy)])
       (.ret [0, 2]))
      (.skip [0])))
    (.seq
     (.region [(8, 0, false)] [] [0, 2] false [
       (none, .mv 8 (.v 0)),
       (none, .call (some 9) 7 true [((.v 8), true), ((.c (.int .i64 40)), false)]),
       (none, .bin 10 .mul (.c (.int .i64 100)) (.v 9)),
       (none, .asg 2 (.v 10) .copy)])
     (.ret [0, 2]))))⟩
def F461 : PFunc :=
 ⟨[false], [.tmp 2, .tmp 3, .tmp 4],
  (.seq
   (.region [] [] [0] false [
     (none, .asg 2 (.c (.sl true 1 [])) .copy),
     (none, .asg 3 (.c (.sl true 1 [])) .copy),
     (none, .asg 4 (.c (.int .i64 0)) .copy)])
   (.seq
    (.region [(9, 0, false)] [] [5] false [
      (none, .mv 9 (.v 0)),
      (none, .call (some 10) 603 true [((.v 9), false)]),
      (none, .asg 5 (.v 10) .move)])
    (.seq
     (.region [(11, 5, false)] [] [5, 6] false [
       (none, .mv 11 (.v 5)),
       (none, .call (some 12) 689 true [((.v 11), true)]),
       (none, .asg 6 (.v 12) .move)])
     (.seq
      (.region [] [] [5, 6, 7] false [
        (none, .mksl 13 1 (.int .i64 0) 0 []),
        (none, .asg 7 (.v 13) .move)])
      (.seq
       (.seq
        (.region [] [] [5, 6, 7, 8] false [
          (none, .asg 8 (.c (.int .i64 0)) .copy)])
        (.block 0
         (.loop
          (.seq
           (.seq
            (.region [(15, 6, false)] [] [5, 6, 7, 8, 17] false [
              (none, .mv 14 (.v 8)),
              (none, .mv 15 (.v 6)),
              (none, .len 16 false (.v 15)),
              (none, .bin 17 .lss (.v 14) (.v 16))])
            (.cond (.v 17)
             (.skip [5, 6, 7, 8])
             (.exit 0 [5, 6, 7])))
           (.seq
            (.block 1
             (.region [(21, 5, false), (20, 7, false)] [] [5, 6, 7, 8] false [
               (none, .mv 20 (.v 7)),
               (none, .mv 21 (.v 5)),
               (none, .call (some 22) 7 true [((.v 21), true), ((.c (.int .i64 60)), false)]),
               (none, .mksl 23 1 (.int .i64 0) 1 [(0, (.v 22), .copy)]),
               (none, .app 24 1 (.v 20) (.v 23) .move),
               (none, .asg 7 (.v 24) .move)]))
            (.region [] [] [5, 6, 7, 8] false [
              (none, .mv 18 (.v 8)),
              (none, .bin 19 .add (.v 18) (.c (.int .i64 1))),
              (none, .asg 8 (.v 19) .copy)]))))))
       (.seq
        (.seq
         (.region [(25, 5, false)] [] [5, 6, 7, 26] false [
           (none, .mv 25 (.v 5)),
           (none, .call (some 26) 7 true [((.v 25), true), ((.c (.int .i64 16)), false)])])
         (.block 2
          (.seq
           (.region [] [] [5, 6, 7, 26, 27] false [
             (none, .bin 28 .eql (.v 26) (.c (.int .i64 0))),
             (none, .asg 27 (.v 28) .copy)])
           (.cond (.v 27)
            (.region [(29, 7, false)] [] [5, 6, 7] false [
              (none, .mv 29 (.v 7)),
              (none, .mksl 30 1 (.int .i64 0) 1 [(0, (.c (.int .i64 5)), .copy)]),
              (none, .app 31 1 (.v 29) (.v 30) .move),
              (none, .asg 7 (.v 31) .move)])
            (.seq
             (.region [] [] [5, 6, 7, 32] false [
               (none, .bin 33 .eql (.v 26) (.c (.int .i64 1))),
               (none, .asg 32 (.v 33) .copy)])
             (.cond (.v 32)
              (.seq
               (.region [(34, 7, false)] [] [5, 6, 7, 36] false [
                 (none, .mv 34 (.v 7)),
                 (none, .len 35 false (.v 34)),
                 (none, .bin 36 .gtr (.v 35) (.c (.int .i64 0)))])
               (.cond (.v 36)
                (.region [(41, 7, false), (38, 5, false), (37, 7, false)] [] [5, 6, 7] false [
                  (none, .mv 37 (.v 7)),
                  (none, .mv 38 (.v 5)),
                  (none, .mksl 39 1 (.int .i64 0) 4 [(0, (.c (.int .i64 (-1))), .copy), (1, (.c (.int .i64 0)), .copy), (2, (.c (.int .i64 100000)), .copy), (3, (.c (.int .i64 100001)), .copy)]),
                  (none, .call (some 40) 4 true [((.v 38), true), ((.v 39), false)]),
                  (none, .iadr 41 1 (.v 37) (.c (.int .i64 0))),
                  (none, .store 1 (.v 41) (.v 40) .copy)])
                (.skip [5, 6, 7])))
              (.skip [5, 6, 7])))))))
        (.seq
         (.region [(44, 5, false), (43, 7, false), (42, 6, false)] [] [2, 3, 4] false [
           (none, .mv 42 (.v 6)),
           (none, .mv 43 (.v 7)),
           (none, .mv 44 (.v 5)),
           (none, .call (some 45) 691 true [((.v 44), true)]),
           (none, .asg 2 (.v 42) .move),
           (none, .asg 3 (.v 43) .move),
           (none, .asg 4 (.v 45) .copy)])
         (.ret [2, 3, 4]))))))))⟩
def F470 : PFunc :=
 ⟨[false], [.tmp 2, .tmp 3],
  (.seq
   (.region [] [] [0] false [
     (none, .asg 2 (.c (.sl true 1 [])) .copy),
     (none, .asg 3 (.c (.int .i64 0)) .copy)])
   (.seq
    (.region [(6, 0, false)] [] [4] false [
      (none, .mv 6 (.v 0)),
      (none, .call (some 7) 603 true [((.v 6), false)]),
      (none, .asg 4 (.v 7) .move)])
    (.seq
     (.region [(8, 4, false)] [] [4, 5] false [
       (none, .mv 8 (.v 4)),
       (none, .call (some 9) 689 true [((.v 8), true)]),
       (none, .asg 5 (.v 9) .move)])
     (.seq
      (.region [(11, 4, false), (10, 5, false)] [] [2, 3] false [
        (none, .mv 10 (.v 5)),
        (none, .mv 11 (.v 4)),
        (none, .call (some 12) 691 true [((.v 11), true)]),
        (none, .asg 2 (.v 10) .move),
        (none, .asg 3 (.v 12) .copy)])
      (.ret [2, 3])))))⟩
def F518 : PFunc :=
 ⟨[false, false], [.tmp 4, .tmp 5],
  (.seq
   (.region [] [] [0, 1] false [
     (none, .asg 4 (.c (.sl true 1 [])) .copy),
     (none, .asg 5 (.c (.int .i64 0)) .copy)])
   (.seq
    (.region [(11, 0, false)] [] [0, 1, 6] false [
      (none, .mv 11 (.v 0)),
      (none, .mv 12 (.v 1)),
      (none, .call (some 13) 696 false [((.v 11), false), ((.v 12), false)]),
      (none, .asg 6 (.v 13) .copy)])
    (.seq
     (.seq
      (.region [] [] [0, 1, 6, 15] false [
        (none, .mv 14 (.v 6)),
        (none, .bin 15 .neq (.v 14) (.c (.int .i64 0)))])
      (.cond (.v 15)
       (.seq
        (.region [] [] [4, 5] false [
          (none, .mv 16 (.v 6)),
          (none, .asg 4 (.c (.sl true 1 [])) .copy),
          (none, .asg 5 (.v 16) .copy)])
        (.ret [4, 5]))
       (.skip [0, 1])))
     (.seq
      (.region [] [] [0, 1, 7] false [
        (none, .mksl 17 1 (.int .i64 0) 0 []),
        (none, .asg 7 (.v 17) .move)])
      (.seq
       (.region [] [] [0, 1, 7, 8] false [
         (none, .asg 8 (.c (.bool false)) .copy)])
       (.seq
        (.seq
         (.region [] [] [0, 1, 7, 8, 9] false [
           (none, .asg 9 (.c (.int .i64 0)) .copy)])
         (.block 0
          (.loop
           (.seq
            (.seq
             (.region [(19, 0, false)] [] [0, 1, 7, 8, 9, 23] false [
               (none, .mv 18 (.v 9)),
               (none, .mv 19 (.v 0)),
               (none, .len 20 false (.v 19)),
               (none, .conv 21 .u64 (.v 20)),
               (none, .bin 22 .shl (.c (.int .i64 1)) (.v 21)),
               (none, .bin 23 .lss (.v 18) (.v 22))])
             (.cond (.v 23)
              (.skip [0, 1, 7, 8, 9])
              (.exit 0 [7, 8])))
            (.seq
             (.block 1
              (.seq
               (.region [(26, 0, false)] [] [0, 1, 7, 8, 9, 10] false [
                 (none, .mv 26 (.v 0)),
                 (none, .len 27 false (.v 26)),
                 (none, .mv 28 (.v 9)),
                 (none, .call (some 29) 698 false [((.v 27), false), ((.v 28), false)]),
                 (none, .asg 10 (.v 29) .move)])
               (.seq
                (.region [(40, 7, false), (39, 10, false), (30, 0, false)] [] [0, 1, 7, 8, 9, 10, 43] false [
                  (none, .mv 30 (.v 0)),
                  (none, .mv 31 (.v 9)),
                  (none, .call (some 32) 699 false [((.v 30), false), ((.v 31), false)]),
                  (none, .mv 33 (.v 1)),
                  (none, .bin 34 .geq (.v 32) (.v 33)),
                  (none, .mv 35 (.v 34)),
                  (some (35, true), .mv 36 (.v 8)),
                  (some (35, true), .un 37 .not (.v 36)),
                  (some (35, true), .mv 38 (.v 37)),
                  (some (38, false), .mv 39 (.v 10)),
                  (some (38, false), .mv 40 (.v 7)),
                  (some (38, false), .call (some 41) 678 false [((.v 39), false), ((.v 40), false)]),
                  (some (35, true), .pick 42 (.v 38) (.c (.bool true)) (.v 41)),
                  (none, .pick 43 (.v 35) (.v 42) (.c (.bool false)))])
                (.cond (.v 43)
                 (.seq
                  (.region [(44, 10, false)] [] [0, 1, 7, 9] false [
                    (none, .mv 44 (.v 10)),
                    (none, .asg 7 (.v 44) .move)])
                  (.region [] [] [0, 1, 7, 8, 9] false [
                    (none, .asg 8 (.c (.bool true)) .copy)]))
                 (.skip [0, 1, 7, 8, 9])))))
             (.region [] [] [0, 1, 7, 8, 9] false [
               (none, .mv 24 (.v 9)),
               (none, .bin 25 .add (.v 24) (.c (.int .i64 1))),
               (none, .asg 9 (.v 25) .copy)]))))))
        (.seq
         (.seq
          (.region [] [] [7, 46] false [
            (none, .mv 45 (.v 8)),
            (none, .un 46 .not (.v 45))])
          (.cond (.v 46)
           (.seq
            (.region [] [] [4, 5] false [
              (none, .asg 4 (.c (.sl true 1 [])) .copy),
              (none, .asg 5 (.c (.int .i64 3)) .copy)])
            (.ret [4, 5]))
           (.skip [7])))
         (.seq
          (.region [(47, 7, false)] [] [4, 5] false [
            (none, .mv 47 (.v 7)),
            (none, .asg 4 (.v 47) .move),
            (none, .asg 5 (.c (.int .i64 0)) .copy)])
          (.ret [4, 5])))))))))⟩
def F358 : PFunc :=
 ⟨[false], [.tmp 2],
  (.seq
   (.region [] [] [0] false [
     (none, .asg 2 (.c (.bool false)) .copy)])
   (.seq
    (.seq
     (.region [(28, 0, false)] [] [0, 29] false [
       (none, .mv 28 (.v 0)),
       (none, .call (some 29) 398 false [((.v 28), false)])])
     (.cond (.v 29)
      (.seq
       (.region [] [] [2] false [
         (none, .asg 2 (.c (.bool true)) .copy)])
       (.ret [2]))
      (.skip [0])))
    (.seq
     (.region [(31, 0, false)] [] [0, 3, 4] false [
       (none, .mv 31 (.v 0)),
       (none, .call (some 32) 470 false [((.v 31), false)]),
       (none, .asg 30 (.v 32) .move),
       (none, .ext 33 (.v 30) 0),
       (none, .extp 34 (.v 30) 1),
       (none, .asg 3 (.v 33) .move),
       (none, .asg 4 (.v 34) .copy)])
     (.seq
      (.region [(36, 3, false)] [] [0, 3, 4, 5, 6] false [
        (none, .mv 36 (.v 3)),
        (none, .mv 37 (.v 4)),
        (none, .call (some 38) 86 false [((.v 36), false), ((.v 37), false)]),
        (none, .asg 35 (.v 38) .move),
        (none, .ext 39 (.v 35) 0),
        (none, .extp 40 (.v 35) 1),
        (none, .asg 5 (.v 39) .move),
        (none, .asg 6 (.v 40) .copy)])
      (.seq
       (.region [(42, 3, false)] [] [0, 3, 4, 5, 6, 7, 8] false [
         (none, .mv 42 (.v 3)),
         (none, .mv 43 (.v 4)),
         (none, .call (some 44) 518 false [((.v 42), false), ((.v 43), false)]),
         (none, .asg 41 (.v 44) .move),
         (none, .ext 45 (.v 41) 0),
         (none, .extp 46 (.v 41) 1),
         (none, .asg 7 (.v 45) .move),
         (none, .asg 8 (.v 46) .copy)])
       (.seq
        (.region [(48, 0, false)] [] [3, 4, 5, 6, 7, 8, 9, 10, 11] false [
          (none, .mv 48 (.v 0)),
          (none, .call (some 49) 461 false [((.v 48), false)]),
          (none, .asg 47 (.v 49) .move),
          (none, .ext 50 (.v 47) 0),
          (none, .ext 51 (.v 47) 1),
          (none, .extp 52 (.v 47) 2),
          (none, .asg 9 (.v 50) .move),
          (none, .asg 10 (.v 51) .move),
          (none, .asg 11 (.v 52) .copy)])
        (.seq
         (.region [(55, 10, false), (54, 9, false)] [] [3, 4, 5, 6, 7, 8, 9, 10, 11, 12, 13, 14] false [
           (none, .mv 54 (.v 9)),
           (none, .mv 55 (.v 10)),
           (none, .mv 56 (.v 11)),
           (none, .call (some 57) 63 false [((.v 54), false), ((.v 55), false), ((.v 56), false)]),
           (none, .asg 53 (.v 57) .move),
           (none, .ext 58 (.v 53) 0),
           (none, .extp 59 (.v 53) 1),
           (none, .extp 60 (.v 53) 2),
           (none, .asg 12 (.v 58) .move),
           (none, .asg 13 (.v 59) .copy),
           (none, .asg 14 (.v 60) .copy)])
         (.seq
          (.region [(63, 10, false), (62, 9, false)] [] [3, 4, 5, 6, 7, 8, 9, 10, 11, 12, 13, 14, 15, 16, 17] false [
            (none, .mv 62 (.v 9)),
            (none, .mv 63 (.v 10)),
            (none, .mv 64 (.v 11)),
            (none, .call (some 65) 447 false [((.v 62), false), ((.v 63), false), ((.v 64), false)]),
            (none, .asg 61 (.v 65) .move),
            (none, .ext 66 (.v 61) 0),
            (none, .extp 67 (.v 61) 1),
            (none, .extp 68 (.v 61) 2),
            (none, .asg 15 (.v 66) .move),
            (none, .asg 16 (.v 67) .copy),
            (none, .asg 17 (.v 68) .copy)])
          (.seq
           (.seq
            (.region [(85, 15, false), (84, 12, false), (74, 7, false), (73, 5, false)] [] [3, 4, 6, 7, 9, 10, 11, 14, 15, 16, 93] false [
              (none, .mv 69 (.v 6)),
              (none, .mv 70 (.v 8)),
              (none, .bin 71 .neq (.v 69) (.v 70)),
              (none, .mv 72 (.v 71)),
              (some (72, false), .mv 73 (.v 5)),
              (some (72, false), .mv 74 (.v 7)),
              (some (72, false), .call (some 75) 400 false [((.v 73), false), ((.v 74), false)]),
              (some (72, false), .un 76 .not (.v 75)),
              (none, .pick 77 (.v 72) (.c (.bool true)) (.v 76)),
              (none, .mv 78 (.v 77)),
              (some (78, false), .mv 79 (.v 14)),
              (some (78, false), .mv 80 (.v 17)),
              (some (78, false), .bin 81 .neq (.v 79) (.v 80)),
              (none, .pick 82 (.v 78) (.c (.bool true)) (.v 81)),
              (none, .mv 83 (.v 82)),
              (some (83, false), .mv 84 (.v 12)),
              (some (83, false), .mv 85 (.v 15)),
              (some (83, false), .call (some 86) 400 false [((.v 84), false), ((.v 85), false)]),
              (some (83, false), .un 87 .not (.v 86)),
              (none, .pick 88 (.v 83) (.c (.bool true)) (.v 87)),
              (none, .mv 89 (.v 88)),
              (some (89, false), .mv 90 (.v 13)),
              (some (89, false), .mv 91 (.v 16)),
              (some (89, false), .bin 92 .neq (.v 90) (.v 91)),
              (none, .pick 93 (.v 89) (.c (.bool true)) (.v 92))])
            (.cond (.v 93)
             (.seq
              (.region [] [] [2] false [
                (none, .asg 2 (.c (.bool false)) .copy)])
              (.ret [2]))
             (.skip [3, 4, 6, 7, 9, 10, 11, 14, 15, 16])))
           (.seq
            (.seq
             (.region [] [] [3, 4, 6, 7, 9, 10, 11, 15, 16, 95] false [
               (none, .mv 94 (.v 14)),
               (none, .bin 95 .eql (.v 94) (.c (.int .i64 0)))])
             (.cond (.v 95)
              (.seq
               (.region [(97, 9, false)] [] [3, 4, 6, 7, 9, 10, 11, 15, 16, 18, 19] false [
                 (none, .mv 97 (.v 9)),
                 (none, .mv 98 (.v 11)),
                 (none, .call (some 99) 86 false [((.v 97), false), ((.v 98), false)]),
                 (none, .asg 96 (.v 99) .move),
                 (none, .ext 100 (.v 96) 0),
                 (none, .extp 101 (.v 96) 1),
                 (none, .asg 18 (.v 100) .move),
                 (none, .asg 19 (.v 101) .copy)])
               (.seq
                (.region [(105, 15, false), (104, 10, false), (103, 9, false)] [] [3, 4, 6, 7, 9, 10, 11, 15, 16, 18, 19, 20, 21] false [
                  (none, .mv 103 (.v 9)),
                  (none, .mv 104 (.v 10)),
                  (none, .mv 105 (.v 15)),
                  (none, .call (some 106) 401 false [((.v 103), false), ((.v 104), false), ((.v 105), false)]),
                  (none, .asg 102 (.v 106) .copy),
                  (none, .extp 107 (.v 102) 0),
                  (none, .extp 108 (.v 102) 1),
                  (none, .asg 20 (.v 107) .copy),
                  (none, .asg 21 (.v 108) .copy)])
                (.seq
                 (.seq
                  (.region [(124, 15, false), (122, 18, false)] [] [3, 4, 6, 7, 9, 10, 16, 18, 127] false [
                    (none, .mv 109 (.v 19)),
                    (none, .bin 110 .neq (.v 109) (.c (.int .i64 0))),
                    (none, .mv 111 (.v 110)),
                    (some (111, false), .mv 112 (.v 20)),
                    (some (111, false), .mv 113 (.v 11)),
                    (some (111, false), .bin 114 .lss (.v 112) (.v 113)),
                    (none, .pick 115 (.v 111) (.c (.bool true)) (.v 114)),
                    (none, .mv 116 (.v 115)),
                    (some (116, false), .mv 117 (.v 21)),
                    (some (116, false), .mv 118 (.v 16)),
                    (some (116, false), .bin 119 .neq (.v 117) (.v 118)),
                    (none, .pick 120 (.v 116) (.c (.bool true)) (.v 119)),
                    (none, .mv 121 (.v 120)),
                    (some (121, false), .mv 122 (.v 18)),
                    (some (121, false), .len 123 false (.v 122)),
                    (some (121, false), .mv 124 (.v 15)),
                    (some (121, false), .len 125 false (.v 124)),
                    (some (121, false), .bin 126 .gtr (.v 123) (.v 125)),
                    (none, .pick 127 (.v 121) (.c (.bool true)) (.v 126))])
                  (.cond (.v 127)
                   (.seq
                    (.region [] [] [2] false [
                      (none, .asg 2 (.c (.bool false)) .copy)])
                    (.ret [2]))
                   (.skip [3, 4, 6, 7, 9, 10, 16, 18])))
                 (.seq
                  (.seq
                   (.region [] [] [3, 4, 6, 7, 9, 10, 16, 18, 22] false [
                     (none, .asg 22 (.c (.int .i64 0)) .copy)])
                   (.block 0
                    (.loop
                     (.seq
                      (.seq
                       (.region [(129, 18, false)] [] [3, 4, 6, 7, 9, 10, 16, 18, 22, 131] false [
                         (none, .mv 128 (.v 22)),
                         (none, .mv 129 (.v 18)),
                         (none, .len 130 false (.v 129)),
                         (none, .bin 131 .lss (.v 128) (.v 130))])
                       (.cond (.v 131)
                        (.skip [3, 4, 6, 7, 9, 10, 16, 18, 22])
                        (.exit 0 [3, 4, 6, 7, 9, 10, 16, 18])))
                      (.seq
                       (.block 1
                        (.seq
                         (.region [(144, 9, false), (142, 18, false), (140, 18, false), (136, 18, false), (134, 18, false)] [] [3, 4, 6, 7, 9, 10, 16, 18, 22, 147] false [
                           (none, .mv 134 (.v 18)),
                           (none, .mv 135 (.v 22)),
                           (none, .iadr 136 1 (.v 134) (.v 135)),
                           (none, .load 137 false 1 (.v 136) none),
                           (none, .bin 138 .lss (.v 137) (.c (.int .i64 0))),
                           (none, .mv 139 (.v 138)),
                           (some (139, false), .mv 140 (.v 18)),
                           (some (139, false), .mv 141 (.v 22)),
                           (some (139, false), .iadr 142 1 (.v 140) (.v 141)),
                           (some (139, false), .load 143 false 1 (.v 142) none),
                           (some (139, false), .mv 144 (.v 9)),
                           (some (139, false), .len 145 false (.v 144)),
                           (some (139, false), .bin 146 .geq (.v 143) (.v 145)),
                           (none, .pick 147 (.v 139) (.c (.bool true)) (.v 146))])
                         (.cond (.v 147)
                          (.seq
                           (.region [] [] [2] false [
                             (none, .asg 2 (.c (.bool false)) .copy)])
                           (.ret [2]))
                          (.skip [3, 4, 6, 7, 9, 10, 16, 18, 22]))))
                       (.region [] [] [3, 4, 6, 7, 9, 10, 16, 18, 22] false [
                         (none, .mv 132 (.v 22)),
                         (none, .bin 133 .add (.v 132) (.c (.int .i64 1))),
                         (none, .asg 22 (.v 133) .copy)]))))))
                  (.seq
                   (.region [(151, 18, false), (150, 10, false), (149, 9, false)] [] [3, 4, 6, 7, 16, 24] false [
                     (none, .mv 149 (.v 9)),
                     (none, .mv 150 (.v 10)),
                     (none, .mv 151 (.v 18)),
                     (none, .call (some 152) 401 false [((.v 149), false), ((.v 150), false), ((.v 151), false)]),
                     (none, .asg 148 (.v 152) .copy),
                     (none, .extp 153 (.v 148) 0),
                     (none, .extp 154 (.v 148) 1),
                     (none, .asg 23 (.v 153) .copy),
                     (none, .asg 24 (.v 154) .copy)])
                   (.seq
                    (.region [] [] [3, 4, 6, 7, 157] false [
                      (none, .mv 155 (.v 24)),
                      (none, .mv 156 (.v 16)),
                      (none, .bin 157 .lss (.v 155) (.v 156))])
                    (.cond (.v 157)
                     (.seq
                      (.region [] [] [2] false [
                        (none, .asg 2 (.c (.bool false)) .copy)])
                      (.ret [2]))
                     (.skip [3, 4, 6, 7]))))))))
              (.skip [3, 4, 6, 7])))
            (.seq
             (.seq
              (.region [] [] [3, 4, 7, 159] false [
                (none, .mv 158 (.v 6)),
                (none, .bin 159 .neq (.v 158) (.c (.int .i64 0)))])
              (.cond (.v 159)
               (.seq
                (.region [] [] [2] false [
                  (none, .asg 2 (.c (.bool true)) .copy)])
                (.ret [2]))
               (.skip [3, 4, 7])))
             (.seq
              (.region [(163, 7, false), (162, 3, false), (161, 3, false)] [] [3, 4, 7, 25] false [
                (none, .mv 161 (.v 3)),
                (none, .mv 162 (.v 3)),
                (none, .mv 163 (.v 7)),
                (none, .call (some 164) 401 false [((.v 161), false), ((.v 162), false), ((.v 163), false)]),
                (none, .asg 160 (.v 164) .copy),
                (none, .extp 165 (.v 160) 0),
                (none, .extp 166 (.v 160) 1),
                (none, .asg 25 (.v 165) .copy),
                (none, .asg 26 (.v 166) .copy)])
              (.seq
               (.seq
                (.region [] [] [3, 4, 7, 25, 27] false [
                  (none, .asg 27 (.c (.int .i64 0)) .copy)])
                (.block 2
                 (.loop
                  (.seq
                   (.seq
                    (.region [(168, 7, false)] [] [3, 4, 7, 25, 27, 170] false [
                      (none, .mv 167 (.v 27)),
                      (none, .mv 168 (.v 7)),
                      (none, .len 169 false (.v 168)),
                      (none, .bin 170 .lss (.v 167) (.v 169))])
                    (.cond (.v 170)
                     (.skip [3, 4, 7, 25, 27])
                     (.exit 2 [4, 25])))
                   (.seq
                    (.block 3
                     (.seq
                      (.region [(179, 3, false), (177, 7, false), (175, 7, false), (174, 3, false)] [] [3, 4, 7, 25, 27, 183] false [
                        (none, .mv 173 (.v 25)),
                        (none, .mv 174 (.v 3)),
                        (none, .mv 175 (.v 7)),
                        (none, .mv 176 (.v 27)),
                        (none, .iadr 177 1 (.v 175) (.v 176)),
                        (none, .load 178 false 1 (.v 177) none),
                        (none, .iadr 179 1 (.v 174) (.v 178)),
                        (none, .load 180 false 1 (.v 179) none),
                        (none, .bin 181 .sub (.v 173) (.v 180)),
                        (none, .mv 182 (.v 4)),
                        (none, .bin 183 .geq (.v 181) (.v 182))])
                      (.cond (.v 183)
                       (.seq
                        (.region [] [] [2] false [
                          (none, .asg 2 (.c (.bool false)) .copy)])
                        (.ret [2]))
                       (.skip [3, 4, 7, 25, 27]))))
                    (.region [] [] [3, 4, 7, 25, 27] false [
                      (none, .mv 171 (.v 27)),
                      (none, .bin 172 .add (.v 171) (.c (.int .i64 1))),
                      (none, .asg 27 (.v 172) .copy)]))))))
               (.seq
                (.region [] [] [2] false [
                  (none, .mv 184 (.v 25)),
                  (none, .mv 185 (.v 4)),
                  (none, .bin 186 .geq (.v 184) (.v 185)),
                  (none, .asg 2 (.v 186) .copy)])
                (.ret [2])))))))))))))))⟩
def tabl : List (Nat × PFunc) := [(326, F326), (64, F64), (273, F273), (31, F31), (27, F27), (792, F792), (258, F258), (286, F286), (818, F818), (796, F796), (285, F285), (63, F63), (86, F86), (398, F398), (400, F400), (401, F401), (605, F605), (678, F678), (695, F695), (696, F696), (698, F698), (699, F699), (447, F447), (5, F5), (7, F7), (4, F4), (603, F603), (6, F6), (689, F689), (691, F691), (461, F461), (470, F470), (518, F518), (358, F358)]
def T : Nat → Option PFunc := tabOf tabl
end Go.Vs.G
