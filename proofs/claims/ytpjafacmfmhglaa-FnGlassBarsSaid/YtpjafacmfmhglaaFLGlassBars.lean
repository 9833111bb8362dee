/- The functions that the law reaches, in the small language, printed by program. No conditions. -/
import Derived.Test.YtpjafacmfmhglaaDLGlassBars
import Derived.Test.YtpjafacmfmhglaaV4
set_option maxRecDepth 100000
open Go Go.Vs
namespace Go.Vs.G
def F22 : PFunc :=
 ⟨[false, false], [.tmp 3],
  (.seq
   (.region [] [] [1, 2] false [
     (none, .box 2 (.v 0) .copy),
     (none, .asg 3 (.c (.bool false)) .copy)])
   (.seq
    (.region [(18, 2, false), (16, 1, true), (14, 2, false), (13, 1, true), (9, 2, false), (7, 1, true), (5, 2, false), (4, 1, true)] [] [3] true [
      (none, .load 4 false 1 (.v 1) none),
      (none, .fadr 5 0 1 (.v 2)),
      (none, .load 6 false 1 (.v 5) none),
      (none, .iadr 7 1 (.v 4) (.v 6)),
      (none, .load 8 false 1 (.v 7) none),
      (none, .fadr 9 1 1 (.v 2)),
      (none, .load 10 false 1 (.v 9) none),
      (none, .bin 11 .eql (.v 8) (.v 10)),
      (none, .mv 12 (.v 11)),
      (some (12, true), .load 13 false 1 (.v 1) none),
      (some (12, true), .fadr 14 2 1 (.v 2)),
      (some (12, true), .load 15 false 1 (.v 14) none),
      (some (12, true), .iadr 16 1 (.v 13) (.v 15)),
      (some (12, true), .load 17 false 1 (.v 16) none),
      (some (12, true), .fadr 18 3 1 (.v 2)),
      (some (12, true), .load 19 false 1 (.v 18) none),
      (some (12, true), .bin 20 .eql (.v 17) (.v 19)),
      (none, .pick 21 (.v 12) (.v 20) (.c (.bool false))),
      (none, .asg 3 (.v 21) .copy)])
    (.ret [3])))⟩
def F820 : PFunc :=
 ⟨[false, false], [.tmp 4],
  (.seq
   (.region [] [] [0, 1] false [
     (none, .asg 4 (.c (.int .i64 0)) .copy)])
   (.seq
    (.seq
     (.region [(6, 0, false)] [] [0, 1, 7, 8] false [
       (none, .mv 6 (.v 0)),
       (none, .len 7 false (.v 6)),
       (none, .mv 8 (.c (.int .i64 0)))])
     (.block 0
      (.loop
       (.seq
        (.region [] [] [0, 1, 7, 8, 9] false [
          (none, .bin 9 .lss (.v 8) (.v 7))])
        (.seq
         (.cond (.v 9)
          (.skip [0, 1, 7, 8])
          (.exit 0 []))
         (.seq
          (.block 1
           (.seq
            (.region [] [] [0, 1, 5, 7, 8] false [
              (none, .mv 10 (.v 8)),
              (none, .asg 5 (.v 10) .copy)])
            (.seq
             (.region [(14, 0, false), (12, 0, false), (11, 1, false)] [] [0, 1, 5, 7, 8, 16] false [
               (none, .mv 11 (.v 1)),
               (none, .mv 12 (.v 0)),
               (none, .mv 13 (.v 5)),
               (none, .iadr 14 4 (.v 12) (.v 13)),
               (none, .load 15 true 4 (.v 14) none),
               (none, .callv (some 16) (.v 11) [(.v 15)])])
             (.cond (.v 16)
              (.seq
               (.region [] [] [4] false [
                 (none, .mv 17 (.v 5)),
                 (none, .asg 4 (.v 17) .copy)])
               (.ret [4]))
              (.skip [0, 1, 7, 8])))))
          (.region [] [] [0, 1, 7, 8] false [
            (none, .bin 18 .add (.v 8) (.c (.int .i64 1))),
            (none, .mv 8 (.v 18))])))))))
    (.seq
     (.region [] [] [4] false [
       (none, .asg 4 (.c (.int .i64 (-1))) .copy)])
     (.ret [4]))))⟩
def F798 : PFunc :=
 ⟨[false, false], [.tmp 4],
  (.seq
   (.region [] [] [0, 1] false [
     (none, .asg 4 (.c (.bool false)) .copy)])
   (.seq
    (.region [(6, 1, false), (5, 0, false)] [] [4] false [
      (none, .mv 5 (.v 0)),
      (none, .mv 6 (.v 1)),
      (none, .call (some 7) 820 false [((.v 5), false), ((.v 6), false)]),
      (none, .bin 8 .geq (.v 7) (.c (.int .i64 0))),
      (none, .asg 4 (.v 8) .copy)])
    (.ret [4])))⟩
def F21 : PFunc :=
 ⟨[false, false], [.tmp 4],
  (.seq
   (.region [] [] [2, 3] false [
     (none, .box 2 (.v 0) .move),
     (none, .box 3 (.v 1) .move),
     (none, .asg 4 (.c (.bool false)) .copy)])
   (.seq
    (.region [(6, 2, true), (5, 2, false)] [3] [4] false [
      (none, .fadr 5 1 1 (.v 2)),
      (none, .load 6 false 1 (.v 5) none),
      (none, .mkfn 7 22 [3]),
      (none, .call (some 8) 798 false [((.v 6), false), ((.v 7), false)]),
      (none, .un 9 .not (.v 8)),
      (none, .asg 4 (.v 9) .copy)])
    (.ret [4])))⟩
def F326 : PFunc :=
 ⟨[false, false, false], [.tmp 6],
  (.seq
   (.region [] [] [0, 1, 2] false [
     (none, .asg 6 (.c (.bool false)) .copy)])
   (.seq
    (.region [] [] [6] false [
      (none, .mv 7 (.v 0)),
      (none, .mv 8 (.v 1)),
      (none, .bin 9 .geq (.v 7) (.v 8)),
      (none, .mv 10 (.v 9)),
      (some (10, true), .mv 11 (.v 0)),
      (some (10, true), .mv 12 (.v 2)),
      (some (10, true), .bin 13 .leq (.v 11) (.v 12)),
      (none, .pick 14 (.v 10) (.v 13) (.c (.bool false))),
      (none, .asg 6 (.v 14) .copy)])
    (.ret [6])))⟩
def F24 : PFunc :=
 ⟨[false, false], [.tmp 4],
  (.seq
   (.region [] [] [1, 2] false [
     (none, .box 2 (.v 0) .move),
     (none, .asg 4 (.c (.bool false)) .copy)])
   (.seq
    (.seq
     (.region [(10, 2, true), (9, 2, false), (7, 1, false)] [] [1, 2, 12] false [
       (none, .mv 7 (.v 1)),
       (none, .len 8 false (.v 7)),
       (none, .fadr 9 0 1 (.v 2)),
       (none, .load 10 false 1 (.v 9) none),
       (none, .len 11 false (.v 10)),
       (none, .bin 12 .neq (.v 8) (.v 11))])
     (.cond (.v 12)
      (.seq
       (.region [] [] [4] false [
         (none, .asg 4 (.c (.bool false)) .copy)])
       (.ret [4]))
      (.skip [1, 2])))
    (.seq
     (.seq
      (.region [(13, 1, false)] [] [1, 2, 13, 14, 15] false [
        (none, .mv 13 (.v 1)),
        (none, .len 14 false (.v 13)),
        (none, .mv 15 (.c (.int .i64 0)))])
      (.block 0
       (.loop
        (.seq
         (.region [(13, 1, false)] [] [1, 2, 13, 14, 15, 16] false [
           (none, .bin 16 .lss (.v 15) (.v 14))])
         (.seq
          (.cond (.v 16)
           (.skip [1, 2, 13, 14, 15])
           (.exit 0 []))
          (.seq
           (.block 1
            (.seq
             (.region [(18, 1, false), (13, 1, false)] [] [1, 2, 5, 6, 13, 14, 15] false [
               (none, .mv 17 (.v 15)),
               (none, .iadr 18 1 (.v 13) (.v 15)),
               (none, .load 19 false 1 (.v 18) none),
               (none, .asg 5 (.v 17) .copy),
               (none, .asg 6 (.v 19) .copy)])
             (.seq
              (.region [(24, 2, true), (22, 2, true), (21, 2, false), (13, 1, false)] [] [1, 2, 13, 14, 15, 28] false [
                (none, .mv 20 (.v 6)),
                (none, .fadr 21 0 1 (.v 2)),
                (none, .load 22 false 1 (.v 21) none),
                (none, .mv 23 (.v 5)),
                (none, .iadr 24 1 (.v 22) (.v 23)),
                (none, .load 25 false 1 (.v 24) none),
                (none, .bin 26 .sub (.v 25) (.c (.int .i64 1))),
                (none, .call (some 27) 326 false [((.v 20), false), ((.c (.int .i64 0)), false), ((.v 26), false)]),
                (none, .un 28 .not (.v 27))])
              (.cond (.v 28)
               (.seq
                (.region [] [] [4] false [
                  (none, .asg 4 (.c (.bool false)) .copy)])
                (.ret [4]))
               (.skip [1, 2, 13, 14, 15])))))
           (.region [(13, 1, false)] [] [1, 2, 13, 14, 15] false [
             (none, .bin 29 .add (.v 15) (.c (.int .i64 1))),
             (none, .mv 15 (.v 29))])))))))
     (.seq
      (.region [] [] [4] false [
        (none, .asg 4 (.c (.bool true)) .copy)])
      (.ret [4])))))⟩
def F23 : PFunc :=
 ⟨[false, false, false], [.tmp 6, .tmp 7],
  (.seq
   (.region [] [] [1, 2, 3] false [
     (none, .box 3 (.v 0) .move),
     (none, .asg 6 (.c (.sl true 1 [])) .copy),
     (none, .asg 7 (.c (.bool false)) .copy)])
   (.seq
    (.region [(10, 1, false)] [] [2, 3, 8, 9] false [
      (none, .mv 10 (.v 1)),
      (none, .call (some 11) 784 false [((.v 10), false)]),
      (none, .mv 12 (.v 2)),
      (none, .bin 13 .quo (.v 12) (.c (.int .i64 2))),
      (none, .asg 8 (.v 11) .move),
      (none, .asg 9 (.v 13) .copy)])
    (.seq
     (.seq
      (.region [] [] [3, 8, 9, 16] false [
        (none, .mv 14 (.v 2)),
        (none, .bin 15 .rem (.v 14) (.c (.int .i64 2))),
        (none, .bin 16 .eql (.v 15) (.c (.int .i64 0)))])
      (.cond (.v 16)
       (.region [(22, 8, false), (19, 8, false), (17, 8, false)] [] [3, 8] false [
         (none, .mv 17 (.v 8)),
         (none, .mv 18 (.v 9)),
         (none, .iadr 19 1 (.v 17) (.v 18)),
         (none, .load 20 false 1 (.v 19) none),
         (none, .bin 21 .add (.v 20) (.c (.int .i64 1))),
         (none, .iadr 22 1 (.v 17) (.v 18)),
         (none, .store 1 (.v 22) (.v 21) .copy)])
       (.region [(28, 8, false), (25, 8, false), (23, 8, false)] [] [3, 8] false [
         (none, .mv 23 (.v 8)),
         (none, .mv 24 (.v 9)),
         (none, .iadr 25 1 (.v 23) (.v 24)),
         (none, .load 26 false 1 (.v 25) none),
         (none, .bin 27 .sub (.v 26) (.c (.int .i64 1))),
         (none, .iadr 28 1 (.v 23) (.v 24)),
         (none, .store 1 (.v 28) (.v 27) .copy)])))
     (.seq
      (.region [(35, 8, false), (31, 8, false), (29, 8, false)] [] [6, 7] false [
        (none, .mv 29 (.v 8)),
        (none, .load 30 true 2 (.v 3) (some .freeze)),
        (none, .mv 31 (.v 8)),
        (none, .call (some 32) 24 false [((.v 30), false), ((.v 31), false)]),
        (none, .mv 33 (.v 32)),
        (some (33, true), .load 34 true 2 (.v 3) (some .move)),
        (some (33, true), .mv 35 (.v 8)),
        (some (33, true), .call (some 36) 21 false [((.v 34), false), ((.v 35), false)]),
        (none, .pick 37 (.v 33) (.v 36) (.c (.bool false))),
        (none, .asg 6 (.v 29) .move),
        (none, .asg 7 (.v 37) .copy)])
      (.ret [6, 7])))))⟩
def F25 : PFunc :=
 ⟨[false, false], [.tmp 4],
  (.seq
   (.region [] [] [1, 2] false [
     (none, .box 2 (.v 0) .move),
     (none, .und 4)])
   (.seq
    (.region [(17, 13, false), (14, 1, false)] [] [1, 2, 5] false [
      (none, .mkmap 13),
      (none, .mv 14 (.v 1)),
      (none, .call (some 15) 283 false [((.v 14), false)]),
      (none, .mksl 16 1 (.int .i64 0) 0 []),
      (none, .mapi 4 (.v 13) (.v 15) (.v 16) .freeze),
      (none, .mv 17 (.v 13)),
      (none, .asg 5 (.v 17) .move)])
    (.seq
     (.region [(18, 1, false)] [] [2, 5, 6] false [
       (none, .mv 18 (.v 1)),
       (none, .mksl 19 1 (.sl false 1 []) 1 [(0, (.v 18), .move)]),
       (none, .asg 6 (.v 19) .move)])
     (.seq
      (.seq
       (.region [] [] [2, 5, 6, 7] false [
         (none, .asg 7 (.c (.int .i64 0)) .copy)])
       (.block 0
        (.loop
         (.seq
          (.seq
           (.region [(21, 6, false)] [] [2, 5, 6, 7, 23] false [
             (none, .mv 20 (.v 7)),
             (none, .mv 21 (.v 6)),
             (none, .len 22 false (.v 21)),
             (none, .bin 23 .lss (.v 20) (.v 22))])
           (.cond (.v 23)
            (.skip [2, 5, 6, 7])
            (.exit 0 [5])))
          (.seq
           (.block 1
            (.seq
             (.region [(27, 2, true), (26, 2, false)] [] [2, 5, 6, 7, 29, 30] false [
               (none, .fadr 26 0 1 (.v 2)),
               (none, .load 27 false 1 (.v 26) none),
               (none, .len 28 false (.v 27)),
               (none, .bin 29 .mul (.c (.int .i64 2)) (.v 28)),
               (none, .mv 30 (.c (.int .i64 0)))])
             (.block 2
              (.loop
               (.seq
                (.region [] [] [2, 5, 6, 7, 29, 30, 31] false [
                  (none, .bin 31 .lss (.v 30) (.v 29))])
                (.seq
                 (.cond (.v 31)
                  (.skip [2, 5, 6, 7, 29, 30])
                  (.exit 2 [2, 5, 6, 7]))
                 (.seq
                  (.block 3
                   (.seq
                    (.region [] [] [2, 5, 6, 7, 8, 29, 30] false [
                      (none, .mv 32 (.v 30)),
                      (none, .asg 8 (.v 32) .copy)])
                    (.seq
                     (.region [(38, 6, true), (37, 6, false), (35, 6, false)] [] [2, 5, 6, 7, 8, 9, 10, 29, 30] true [
                       (none, .load 34 true 2 (.v 2) none),
                       (none, .mvr 35 6),
                       (none, .mv 36 (.v 7)),
                       (none, .iadr 37 1 (.v 35) (.v 36)),
                       (none, .load 38 false 1 (.v 37) none),
                       (none, .mv 39 (.v 8)),
                       (none, .call (some 40) 23 false [((.v 34), false), ((.v 38), false), ((.v 39), false)]),
                       (none, .asg 33 (.v 40) .freeze),
                       (none, .extp 41 (.v 33) 0),
                       (none, .extp 42 (.v 33) 1),
                       (none, .asg 9 (.v 41) .copy),
                       (none, .asg 10 (.v 42) .copy)])
                     (.seq
                      (.seq
                       (.region [(45, 9, false), (44, 5, false)] [] [2, 5, 6, 7, 8, 9, 10, 12, 29, 30] false [
                         (none, .mv 44 (.v 5)),
                         (none, .mv 45 (.v 9)),
                         (none, .call (some 46) 283 false [((.v 45), false)]),
                         (none, .mapg 47 true 4 (.sl false 1 []) (.v 44) (.v 46)),
                         (none, .asg 43 (.v 47) .move),
                         (none, .extp 48 (.v 43) 0),
                         (none, .extp 49 (.v 43) 1),
                         (none, .asg 11 (.v 48) .move),
                         (none, .asg 12 (.v 49) .copy)])
                       (.seq
                        (.region [] [] [2, 5, 6, 7, 8, 9, 29, 30, 54] false [
                          (none, .mv 50 (.v 10)),
                          (none, .un 51 .not (.v 50)),
                          (none, .mv 52 (.v 51)),
                          (some (52, false), .mv 53 (.v 12)),
                          (none, .pick 54 (.v 52) (.c (.bool true)) (.v 53))])
                        (.cond (.v 54)
                         (.exit 3 [2, 5, 6, 7, 29, 30])
                         (.skip [2, 5, 6, 7, 8, 9, 29, 30]))))
                      (.seq
                       (.region [(62, 6, true), (61, 6, false), (59, 6, false), (58, 5, false), (56, 9, false), (55, 5, false)] [] [2, 5, 6, 7, 9, 29, 30] true [
                         (none, .mvr 55 5),
                         (none, .mv 56 (.v 9)),
                         (none, .call (some 57) 283 false [((.v 56), false)]),
                         (none, .mvr 58 5),
                         (none, .mvr 59 6),
                         (none, .mv 60 (.v 7)),
                         (none, .iadr 61 1 (.v 59) (.v 60)),
                         (none, .load 62 false 1 (.v 61) none),
                         (none, .call (some 63) 283 false [((.v 62), false)]),
                         (none, .mapg 64 false 4 (.sl false 1 []) (.v 58) (.v 63)),
                         (none, .call (some 65) 784 false [((.v 64), false)]),
                         (none, .mv 66 (.v 8)),
                         (none, .mksl 67 1 (.int .i64 0) 1 [(0, (.v 66), .copy)]),
                         (none, .app 68 1 (.v 65) (.v 67) .move),
                         (none, .mapi 4 (.v 55) (.v 57) (.v 68) .freeze)])
                       (.region [(70, 9, false), (69, 6, false)] [] [2, 5, 6, 7, 29, 30] false [
                         (none, .mv 69 (.v 6)),
                         (none, .mv 70 (.v 9)),
                         (none, .mksl 71 1 (.sl false 1 []) 1 [(0, (.v 70), .move)]),
                         (none, .app 72 1 (.v 69) (.v 71) .move),
                         (none, .asg 6 (.v 72) .move)]))))))
                  (.region [] [] [2, 5, 6, 7, 29, 30] false [
                    (none, .bin 73 .add (.v 30) (.c (.int .i64 1))),
                    (none, .mv 30 (.v 73))]))))))))
           (.region [] [] [2, 5, 6, 7] false [
             (none, .mv 24 (.v 7)),
             (none, .bin 25 .add (.v 24) (.c (.int .i64 1))),
             (none, .asg 7 (.v 25) .copy)]))))))
      (.seq
       (.region [(74, 5, false)] [] [4] false [
         (none, .mv 74 (.v 5)),
         (none, .asg 4 (.v 74) .move)])
       (.ret [4]))))))⟩
def F233 : PFunc :=
 ⟨[false], [.tmp 2],
  (.seq
   (.region [] [] [0] false [
     (none, .asg 2 (.c (.bool false)) .copy)])
   (.seq
    (.region [] [] [2] false [
      (none, .mv 3 (.v 0)),
      (none, .call (some 4) 326 false [((.v 3), false), ((.c (.int .i64 1)), false), ((.c (.int .i64 4)), false)]),
      (none, .un 5 .not (.v 4)),
      (none, .asg 2 (.v 5) .copy)])
    (.ret [2])))⟩
def F234 : PFunc :=
 ⟨[false, false, false], [.tmp 4],
  (.seq
   (.region [] [] [1, 2, 3] false [
     (none, .box 3 (.v 0) .copy),
     (none, .asg 4 (.c (.bool false)) .copy)])
   (.seq
    (.region [(42, 2, true), (40, 3, false), (39, 2, true), (38, 2, false), (36, 3, false), (29, 2, true), (27, 3, false), (26, 2, true), (25, 2, false), (23, 3, false), (14, 3, false), (12, 3, false), (5, 3, false)] [] [4] true [
      (none, .fadr 5 0 1 (.v 3)),
      (none, .load 6 false 1 (.v 5) none),
      (none, .load 7 false 1 (.v 1) none),
      (none, .bin 8 .sub (.v 7) (.c (.int .i64 1))),
      (none, .call (some 9) 326 false [((.v 6), false), ((.c (.int .i64 0)), false), ((.v 8), false)]),
      (none, .un 10 .not (.v 9)),
      (none, .mv 11 (.v 10)),
      (some (11, false), .fadr 12 2 1 (.v 3)),
      (some (11, false), .load 13 false 1 (.v 12) none),
      (some (11, false), .fadr 14 0 1 (.v 3)),
      (some (11, false), .load 15 false 1 (.v 14) none),
      (some (11, false), .bin 16 .add (.v 15) (.c (.int .i64 1))),
      (some (11, false), .load 17 false 1 (.v 1) none),
      (some (11, false), .bin 18 .sub (.v 17) (.c (.int .i64 1))),
      (some (11, false), .call (some 19) 326 false [((.v 13), false), ((.v 16), false), ((.v 18), false)]),
      (some (11, false), .un 20 .not (.v 19)),
      (none, .pick 21 (.v 11) (.c (.bool true)) (.v 20)),
      (none, .mv 22 (.v 21)),
      (some (22, false), .fadr 23 1 1 (.v 3)),
      (some (22, false), .load 24 false 1 (.v 23) none),
      (some (22, false), .fadr 25 0 1 (.v 2)),
      (some (22, false), .load 26 false 1 (.v 25) none),
      (some (22, false), .fadr 27 0 1 (.v 3)),
      (some (22, false), .load 28 false 1 (.v 27) none),
      (some (22, false), .iadr 29 1 (.v 26) (.v 28)),
      (some (22, false), .load 30 false 1 (.v 29) none),
      (some (22, false), .bin 31 .sub (.v 30) (.c (.int .i64 1))),
      (some (22, false), .call (some 32) 326 false [((.v 24), false), ((.c (.int .i64 0)), false), ((.v 31), false)]),
      (some (22, false), .un 33 .not (.v 32)),
      (none, .pick 34 (.v 22) (.c (.bool true)) (.v 33)),
      (none, .mv 35 (.v 34)),
      (some (35, false), .fadr 36 3 1 (.v 3)),
      (some (35, false), .load 37 false 1 (.v 36) none),
      (some (35, false), .fadr 38 0 1 (.v 2)),
      (some (35, false), .load 39 false 1 (.v 38) none),
      (some (35, false), .fadr 40 2 1 (.v 3)),
      (some (35, false), .load 41 false 1 (.v 40) none),
      (some (35, false), .iadr 42 1 (.v 39) (.v 41)),
      (some (35, false), .load 43 false 1 (.v 42) none),
      (some (35, false), .bin 44 .sub (.v 43) (.c (.int .i64 1))),
      (some (35, false), .call (some 45) 326 false [((.v 37), false), ((.c (.int .i64 0)), false), ((.v 44), false)]),
      (some (35, false), .un 46 .not (.v 45)),
      (none, .pick 47 (.v 35) (.c (.bool true)) (.v 46)),
      (none, .asg 4 (.v 47) .copy)])
    (.ret [4])))⟩
def F818 : PFunc :=
 ⟨[false, false], [.tmp 4],
  (.seq
   (.region [] [] [0, 1] false [
     (none, .asg 4 (.c (.int .i64 0)) .copy)])
   (.seq
    (.seq
     (.region [(6, 0, false)] [] [0, 1, 7, 8] false [
       (none, .mv 6 (.v 0)),
       (none, .len 7 false (.v 6)),
       (none, .mv 8 (.c (.int .i64 0)))])
     (.block 0
      (.loop
       (.seq
        (.region [] [] [0, 1, 7, 8, 9] false [
          (none, .bin 9 .lss (.v 8) (.v 7))])
        (.seq
         (.cond (.v 9)
          (.skip [0, 1, 7, 8])
          (.exit 0 []))
         (.seq
          (.block 1
           (.seq
            (.region [] [] [0, 1, 5, 7, 8] false [
              (none, .mv 10 (.v 8)),
              (none, .asg 5 (.v 10) .copy)])
            (.seq
             (.region [(14, 0, false), (12, 0, false), (11, 1, false)] [] [0, 1, 5, 7, 8, 16] false [
               (none, .mv 11 (.v 1)),
               (none, .mv 12 (.v 0)),
               (none, .mv 13 (.v 5)),
               (none, .iadr 14 1 (.v 12) (.v 13)),
               (none, .load 15 false 1 (.v 14) none),
               (none, .callv (some 16) (.v 11) [(.v 15)])])
             (.cond (.v 16)
              (.seq
               (.region [] [] [4] false [
                 (none, .mv 17 (.v 5)),
                 (none, .asg 4 (.v 17) .copy)])
               (.ret [4]))
              (.skip [0, 1, 7, 8])))))
          (.region [] [] [0, 1, 7, 8] false [
            (none, .bin 18 .add (.v 8) (.c (.int .i64 1))),
            (none, .mv 8 (.v 18))])))))))
    (.seq
     (.region [] [] [4] false [
       (none, .asg 4 (.c (.int .i64 (-1))) .copy)])
     (.ret [4]))))⟩
def F796 : PFunc :=
 ⟨[false, false], [.tmp 4],
  (.seq
   (.region [] [] [0, 1] false [
     (none, .asg 4 (.c (.bool false)) .copy)])
   (.seq
    (.region [(6, 1, false), (5, 0, false)] [] [4] false [
      (none, .mv 5 (.v 0)),
      (none, .mv 6 (.v 1)),
      (none, .call (some 7) 818 false [((.v 5), false), ((.v 6), false)]),
      (none, .bin 8 .geq (.v 7) (.c (.int .i64 0))),
      (none, .asg 4 (.v 8) .copy)])
    (.ret [4])))⟩
def F232 : PFunc :=
 ⟨[false], [.tmp 2],
  (.seq
   (.region [] [3] [1] false [
     (none, .box 1 (.v 0) .move),
     (none, .asg 2 (.c (.bool false)) .copy)])
   (.seq
    (.region [(5, 1, true), (4, 1, false)] [1] [1, 3] false [
      (none, .fadr 4 0 1 (.v 1)),
      (none, .load 5 false 1 (.v 4) none),
      (none, .len 6 false (.v 5)),
      (none, .new 3 (.int .i64 0)),
      (none, .store 1 (.v 3) (.v 6) .copy)])
    (.seq
     (.seq
      (.region [(15, 1, true), (14, 1, false)] [3, 1] [1, 3, 17] false [
        (none, .load 7 false 1 (.v 3) none),
        (none, .bin 8 .lss (.v 7) (.c (.int .i64 1))),
        (none, .mv 9 (.v 8)),
        (some (9, false), .load 10 false 1 (.v 3) none),
        (some (9, false), .bin 11 .gtr (.v 10) (.c (.int .i64 4))),
        (none, .pick 12 (.v 9) (.c (.bool true)) (.v 11)),
        (none, .mv 13 (.v 12)),
        (some (13, false), .fadr 14 0 1 (.v 1)),
        (some (13, false), .load 15 false 1 (.v 14) none),
        (some (13, false), .call (some 16) 796 false [((.v 15), false), ((.c (.fn 233 [])), false)]),
        (none, .pick 17 (.v 13) (.c (.bool true)) (.v 16))])
      (.cond (.v 17)
       (.seq
        (.region [] [3, 1] [2] false [
          (none, .asg 2 (.c (.bool false)) .copy)])
        (.ret [2]))
       (.skip [1, 3])))
     (.seq
      (.region [(24, 1, true), (23, 1, false), (19, 1, true), (18, 1, false)] [3, 1] [2] false [
        (none, .fadr 18 1 1 (.v 1)),
        (none, .load 19 false 1 (.v 18) none),
        (none, .len 20 false (.v 19)),
        (none, .bin 21 .leq (.v 20) (.c (.int .i64 8))),
        (none, .mv 22 (.v 21)),
        (some (22, true), .fadr 23 1 1 (.v 1)),
        (some (22, true), .load 24 false 1 (.v 23) none),
        (some (22, true), .mkfn 25 234 [3, 1]),
        (some (22, true), .call (some 26) 798 false [((.v 24), false), ((.v 25), false)]),
        (some (22, true), .un 27 .not (.v 26)),
        (none, .pick 28 (.v 22) (.v 27) (.c (.bool false))),
        (none, .asg 2 (.v 28) .copy)])
      (.ret [2])))))⟩
def F310 : PFunc :=
 ⟨[false, false], [.tmp 3],
  (.seq
   (.region [] [] [0, 1] false [
     (none, .asg 3 (.c (.bool false)) .copy)])
   (.seq
    (.region [(5, 0, false)] [] [3] false [
      (none, .load 4 true 2 (.v 1) (some .move)),
      (none, .mv 5 (.v 0)),
      (none, .call (some 6) 24 false [((.v 4), false), ((.v 5), false)]),
      (none, .un 7 .not (.v 6)),
      (none, .asg 3 (.v 7) .copy)])
    (.ret [3])))⟩
def F311 : PFunc :=
 ⟨[false, false], [.tmp 3],
  (.seq
   (.region [] [] [0, 1] false [
     (none, .asg 3 (.c (.bool false)) .copy)])
   (.seq
    (.region [(5, 0, false)] [] [3] false [
      (none, .load 4 true 2 (.v 1) (some .move)),
      (none, .mv 5 (.v 0)),
      (none, .call (some 6) 21 false [((.v 4), false), ((.v 5), false)]),
      (none, .un 7 .not (.v 6)),
      (none, .asg 3 (.v 7) .copy)])
    (.ret [3])))⟩
def F817 : PFunc :=
 ⟨[false, false], [.tmp 4],
  (.seq
   (.region [] [] [0, 1] false [
     (none, .asg 4 (.c (.int .i64 0)) .copy)])
   (.seq
    (.seq
     (.region [(6, 0, false)] [] [0, 1, 7, 8] false [
       (none, .mv 6 (.v 0)),
       (none, .len 7 false (.v 6)),
       (none, .mv 8 (.c (.int .i64 0)))])
     (.block 0
      (.loop
       (.seq
        (.region [] [] [0, 1, 7, 8, 9] false [
          (none, .bin 9 .lss (.v 8) (.v 7))])
        (.seq
         (.cond (.v 9)
          (.skip [0, 1, 7, 8])
          (.exit 0 []))
         (.seq
          (.block 1
           (.seq
            (.region [] [] [0, 1, 5, 7, 8] false [
              (none, .mv 10 (.v 8)),
              (none, .asg 5 (.v 10) .copy)])
            (.seq
             (.region [(15, 0, true), (14, 0, false), (12, 0, false), (11, 1, false)] [] [0, 1, 5, 7, 8, 16] false [
               (none, .mv 11 (.v 1)),
               (none, .mv 12 (.v 0)),
               (none, .mv 13 (.v 5)),
               (none, .iadr 14 1 (.v 12) (.v 13)),
               (none, .load 15 false 1 (.v 14) none),
               (none, .callv (some 16) (.v 11) [(.v 15)])])
             (.cond (.v 16)
              (.seq
               (.region [] [] [4] false [
                 (none, .mv 17 (.v 5)),
                 (none, .asg 4 (.v 17) .copy)])
               (.ret [4]))
              (.skip [0, 1, 7, 8])))))
          (.region [] [] [0, 1, 7, 8] false [
            (none, .bin 18 .add (.v 8) (.c (.int .i64 1))),
            (none, .mv 8 (.v 18))])))))))
    (.seq
     (.region [] [] [4] false [
       (none, .asg 4 (.c (.int .i64 (-1))) .copy)])
     (.ret [4]))))⟩
def F795 : PFunc :=
 ⟨[false, false], [.tmp 4],
  (.seq
   (.region [] [] [0, 1] false [
     (none, .asg 4 (.c (.bool false)) .copy)])
   (.seq
    (.region [(6, 1, false), (5, 0, false)] [] [4] false [
      (none, .mv 5 (.v 0)),
      (none, .mv 6 (.v 1)),
      (none, .call (some 7) 817 false [((.v 5), false), ((.v 6), false)]),
      (none, .bin 8 .geq (.v 7) (.c (.int .i64 0))),
      (none, .asg 4 (.v 8) .copy)])
    (.ret [4])))⟩
def F309 : PFunc :=
 ⟨[false, false, false], [.tmp 6],
  (.seq
   (.region [] [] [1, 2, 3] false [
     (none, .box 3 (.v 0) .move),
     (none, .asg 6 (.c (.int .i64 0)) .copy)])
   (.seq
    (.block 0
     (.seq
      (.region [] [3, 3] [1, 2, 3, 7] false [
        (none, .load 8 true 2 (.v 3) (some .freeze)),
        (none, .call (some 9) 232 false [((.v 8), false)]),
        (none, .un 10 .not (.v 9)),
        (none, .asg 7 (.v 10) .copy)])
      (.cond (.v 7)
       (.seq
        (.region [] [3, 3] [6] false [
          (none, .asg 6 (.c (.int .i64 1)) .copy)])
        (.ret [6]))
       (.seq
        (.region [(18, 3, true), (17, 3, false), (12, 2, false)] [3, 3] [2, 3, 11] false [
          (none, .mv 12 (.v 2)),
          (none, .mkfn 13 310 [3]),
          (none, .call (some 14) 795 false [((.v 12), false), ((.v 13), false)]),
          (none, .mv 15 (.v 14)),
          (some (15, false), .mv 16 (.v 1)),
          (some (15, false), .fadr 17 0 1 (.v 3)),
          (some (15, false), .load 18 false 1 (.v 17) none),
          (some (15, false), .len 19 false (.v 18)),
          (some (15, false), .bin 20 .mul (.c (.int .i64 2)) (.v 19)),
          (some (15, false), .bin 21 .sub (.v 20) (.c (.int .i64 1))),
          (some (15, false), .call (some 22) 326 false [((.v 16), false), ((.c (.int .i64 0)), false), ((.v 21), false)]),
          (some (15, false), .un 23 .not (.v 22)),
          (none, .pick 24 (.v 15) (.c (.bool true)) (.v 23)),
          (none, .asg 11 (.v 24) .copy)])
        (.cond (.v 11)
         (.seq
          (.region [] [3, 3] [6] false [
            (none, .asg 6 (.c (.int .i64 2)) .copy)])
          (.ret [6]))
         (.seq
          (.region [(26, 2, false)] [3, 3] [25] false [
            (none, .mv 26 (.v 2)),
            (none, .mkfn 27 311 [3]),
            (none, .call (some 28) 795 false [((.v 26), false), ((.v 27), false)]),
            (none, .asg 25 (.v 28) .copy)])
          (.cond (.v 25)
           (.seq
            (.region [] [3, 3] [6] false [
              (none, .asg 6 (.c (.int .i64 9)) .copy)])
            (.ret [6]))
           (.skip []))))))))
    (.seq
     (.region [] [3, 3] [6] false [
       (none, .asg 6 (.c (.int .i64 0)) .copy)])
     (.ret [6]))))⟩
def F70 : PFunc :=
 ⟨[false, false], [.tmp 4, .tmp 5],
  (.seq
   (.region [] [] [1, 2] false [
     (none, .box 2 (.v 0) .move),
     (none, .asg 4 (.c (.int .i64 0)) .copy),
     (none, .asg 5 (.c (.int .i64 0)) .copy)])
   (.seq
    (.seq
     (.region [(8, 1, false)] [] [1, 2, 6] false [
       (none, .load 7 true 2 (.v 2) (some .freeze)),
       (none, .mv 8 (.v 1)),
       (none, .mksl 9 1 (.sl false 1 []) 1 [(0, (.v 8), .freeze)]),
       (none, .call (some 10) 309 false [((.v 7), false), ((.c (.int .i64 0)), false), ((.v 9), false)]),
       (none, .asg 6 (.v 10) .copy)])
     (.seq
      (.region [] [] [1, 2, 6, 12] false [
        (none, .mv 11 (.v 6)),
        (none, .bin 12 .neq (.v 11) (.c (.int .i64 0)))])
      (.cond (.v 12)
       (.seq
        (.region [] [] [4, 5] false [
          (none, .mv 13 (.v 6)),
          (none, .asg 4 (.c (.int .i64 0)) .copy),
          (none, .asg 5 (.v 13) .copy)])
        (.ret [4, 5]))
       (.skip [1, 2]))))
    (.seq
     (.region [(15, 1, false)] [] [4, 5] false [
       (none, .load 14 true 2 (.v 2) (some .move)),
       (none, .mv 15 (.v 1)),
       (none, .call (some 16) 25 true [((.v 14), false), ((.v 15), false)]),
       (none, .mapl 17 (.v 16)),
       (none, .asg 4 (.v 17) .copy),
       (none, .asg 5 (.c (.int .i64 0)) .copy)])
     (.ret [4, 5]))))⟩
def F794 : PFunc :=
 ⟨[false], [.tmp 2],
  (.seq
   (.region [] [] [0] false [
     (none, .asg 2 (.c (.sl true 4 [])) .copy)])
   (.seq
    (.region [] [] [0, 3] false [
      (none, .asg 3 (.c (.int .i64 0)) .copy)])
    (.seq
     (.seq
      (.region [(9, 0, false)] [] [0, 3, 9, 10, 11] false [
        (none, .mv 9 (.v 0)),
        (none, .len 10 false (.v 9)),
        (none, .mv 11 (.c (.int .i64 0)))])
      (.block 0
       (.loop
        (.seq
         (.region [(9, 0, false)] [] [0, 3, 9, 10, 11, 12] false [
           (none, .bin 12 .lss (.v 11) (.v 10))])
         (.seq
          (.cond (.v 12)
           (.skip [0, 3, 9, 10, 11])
           (.exit 0 [0, 3]))
          (.seq
           (.block 1
            (.seq
             (.region [(14, 0, true), (13, 0, false), (9, 0, false)] [] [0, 3, 5, 9, 10, 11] false [
               (none, .iadr 13 1 (.v 9) (.v 11)),
               (none, .load 14 false 1 (.v 13) none),
               (none, .asg 5 (.v 14) .freeze)])
             (.seq
              (.region [(16, 5, false), (9, 0, false)] [] [0, 3, 9, 10, 11] false [
                (none, .mv 15 (.v 3)),
                (none, .mv 16 (.v 5)),
                (none, .len 17 false (.v 16)),
                (none, .bin 18 .add (.v 15) (.v 17)),
                (none, .asg 3 (.v 18) .copy)])
              (.seq
               (.region [(9, 0, false)] [] [0, 3, 9, 10, 11, 20] false [
                 (none, .mv 19 (.v 3)),
                 (none, .bin 20 .lss (.v 19) (.c (.int .i64 0)))])
               (.cond (.v 20)
                (.region [(9, 0, false)] [] [0, 3, 9, 10, 11] false [
                  (none, .nope (some 21)),
                  (none, .nope none)])
                (.skip [0, 3, 9, 10, 11]))))))
           (.region [(9, 0, false)] [] [0, 3, 9, 10, 11] false [
             (none, .bin 22 .add (.v 11) (.c (.int .i64 1))),
             (none, .mv 11 (.v 22))])))))))
     (.seq
      (.region [] [] [0, 6] false [
        (none, .mv 23 (.v 3)),
        (none, .call (some 24) 816 false [((.c (.nil 2004)), false), ((.v 23), false)]),
        (none, .asg 6 (.v 24) .move)])
      (.seq
       (.seq
        (.region [(25, 0, false)] [] [0, 6, 25, 26, 27] false [
          (none, .mv 25 (.v 0)),
          (none, .len 26 false (.v 25)),
          (none, .mv 27 (.c (.int .i64 0)))])
        (.block 2
         (.loop
          (.seq
           (.region [(25, 0, false)] [] [0, 6, 25, 26, 27, 28] false [
             (none, .bin 28 .lss (.v 27) (.v 26))])
           (.seq
            (.cond (.v 28)
             (.skip [0, 6, 25, 26, 27])
             (.exit 2 [6]))
            (.seq
             (.block 3
              (.seq
               (.region [(30, 0, true), (29, 0, false), (25, 0, false)] [] [0, 6, 8, 25, 26, 27] false [
                 (none, .iadr 29 1 (.v 25) (.v 27)),
                 (none, .load 30 false 1 (.v 29) none),
                 (none, .asg 8 (.v 30) .freeze)])
               (.region [(32, 8, false), (31, 6, false), (25, 0, false)] [] [0, 6, 25, 26, 27] false [
                 (none, .mv 31 (.v 6)),
                 (none, .mv 32 (.v 8)),
                 (none, .app 33 4 (.v 31) (.v 32) .move),
                 (none, .asg 6 (.v 33) .move)])))
             (.region [(25, 0, false)] [] [0, 6, 25, 26, 27] false [
               (none, .bin 34 .add (.v 27) (.c (.int .i64 1))),
               (none, .mv 27 (.v 34))])))))))
       (.seq
        (.region [(35, 6, false)] [] [2] false [
          (none, .mv 35 (.v 6)),
          (none, .asg 2 (.v 35) .move)])
        (.ret [2])))))))⟩
def F205 : PFunc :=
 ⟨[false, false], [.tmp 4, .tmp 5],
  (.seq
   (.region [] [] [1, 2] false [
     (none, .box 2 (.v 0) .move),
     (none, .asg 4 (.c (.sl true 1 [])) .copy),
     (none, .asg 5 (.c (.int .i64 0)) .copy)])
   (.seq
    (.seq
     (.region [(12, 1, false)] [] [1, 2, 6] false [
       (none, .load 11 true 2 (.v 2) (some .freeze)),
       (none, .mv 12 (.v 1)),
       (none, .mksl 13 1 (.sl false 1 []) 1 [(0, (.v 12), .freeze)]),
       (none, .call (some 14) 309 false [((.v 11), false), ((.c (.int .i64 0)), false), ((.v 13), false)]),
       (none, .asg 6 (.v 14) .copy)])
     (.seq
      (.region [] [] [1, 2, 6, 16] false [
        (none, .mv 15 (.v 6)),
        (none, .bin 16 .neq (.v 15) (.c (.int .i64 0)))])
      (.cond (.v 16)
       (.seq
        (.region [] [] [4, 5] false [
          (none, .mv 17 (.v 6)),
          (none, .asg 4 (.c (.sl true 1 [])) .copy),
          (none, .asg 5 (.v 17) .copy)])
        (.ret [4, 5]))
       (.skip [1, 2]))))
    (.seq
     (.region [(19, 1, false)] [] [1, 2, 7, 8] false [
       (none, .load 18 true 2 (.v 2) (some .freeze)),
       (none, .mv 19 (.v 1)),
       (none, .call (some 20) 25 true [((.v 18), false), ((.v 19), false)]),
       (none, .mapl 21 (.v 20)),
       (none, .mksl 22 1 (.int .i64 0) 0 []),
       (none, .asg 7 (.v 21) .copy),
       (none, .asg 8 (.v 22) .move)])
     (.seq
      (.seq
       (.region [(24, 2, true), (23, 2, false)] [] [1, 2, 7, 8, 25, 26] false [
         (none, .fadr 23 1 1 (.v 2)),
         (none, .load 24 false 1 (.v 23) none),
         (none, .len 25 false (.v 24)),
         (none, .mv 26 (.c (.int .i64 0)))])
       (.block 0
        (.loop
         (.seq
          (.region [] [] [1, 2, 7, 8, 25, 26, 27] false [
            (none, .bin 27 .lss (.v 26) (.v 25))])
          (.seq
           (.cond (.v 27)
            (.skip [1, 2, 7, 8, 25, 26])
            (.exit 0 [8]))
           (.seq
            (.block 1
             (.seq
              (.region [] [] [1, 2, 7, 8, 9, 25, 26] false [
                (none, .mv 28 (.v 26)),
                (none, .asg 9 (.v 28) .copy)])
              (.seq
               (.region [(36, 2, true), (35, 2, false), (32, 2, true), (31, 2, false), (30, 2, true), (29, 2, false)] [] [1, 2, 7, 8, 9, 10, 25, 26] true [
                 (none, .fadr 29 0 1 (.v 2)),
                 (none, .load 30 false 1 (.v 29) none),
                 (none, .fadr 31 1 1 (.v 2)),
                 (none, .load 32 false 1 (.v 31) none),
                 (none, .mv 33 (.v 9)),
                 (none, .slc 34 false 4 (.v 32) none (some (.v 33)) .copy),
                 (none, .fadr 35 1 1 (.v 2)),
                 (none, .load 36 false 1 (.v 35) none),
                 (none, .mv 37 (.v 9)),
                 (none, .bin 38 .add (.v 37) (.c (.int .i64 1))),
                 (none, .slc 39 false 4 (.v 36) (some (.v 38)) none .copy),
                 (none, .mksl 40 1 (.sl false 4 []) 2 [(0, (.v 34), .copy), (1, (.v 39), .copy)]),
                 (none, .call (some 41) 794 false [((.v 40), false)]),
                 (none, .build 42 [(.sl false 1 []), (.sl true 4 [])] [(0, 1, (.v 30), .copy), (1, 1, (.v 41), .move)]),
                 (none, .new 10 (.agg [(.sl false 1 []), (.sl true 4 [])])),
                 (none, .store 2 (.v 10) (.v 42) .move)])
               (.seq
                (.region [(44, 1, false)] [] [1, 2, 7, 8, 9, 25, 26, 48] false [
                  (none, .load 43 true 2 (.v 10) (some .move)),
                  (none, .mv 44 (.v 1)),
                  (none, .call (some 45) 25 true [((.v 43), false), ((.v 44), false)]),
                  (none, .mapl 46 (.v 45)),
                  (none, .mv 47 (.v 7)),
                  (none, .bin 48 .eql (.v 46) (.v 47))])
                (.cond (.v 48)
                 (.region [(49, 8, false)] [] [1, 2, 7, 8, 25, 26] false [
                   (none, .mv 49 (.v 8)),
                   (none, .mv 50 (.v 9)),
                   (none, .mksl 51 1 (.int .i64 0) 1 [(0, (.v 50), .copy)]),
                   (none, .app 52 1 (.v 49) (.v 51) .move),
                   (none, .asg 8 (.v 52) .move)])
                 (.skip [1, 2, 7, 8, 25, 26]))))))
            (.region [] [] [1, 2, 7, 8, 25, 26] false [
              (none, .bin 53 .add (.v 26) (.c (.int .i64 1))),
              (none, .mv 26 (.v 53))])))))))
      (.seq
       (.region [(54, 8, false)] [] [4, 5] false [
         (none, .mv 54 (.v 8)),
         (none, .asg 4 (.v 54) .move),
         (none, .asg 5 (.c (.int .i64 0)) .copy)])
       (.ret [4, 5]))))))⟩
def F385 : PFunc :=
 ⟨[false, false], [.tmp 4],
  (.seq
   (.region [] [] [0, 1] false [
     (none, .asg 4 (.c (.bool false)) .copy)])
   (.seq
    (.seq
     (.region [] [] [0, 1, 5] false [
       (none, .asg 5 (.c (.int .i64 0)) .copy)])
     (.block 0
      (.loop
       (.seq
        (.seq
         (.region [(7, 0, false)] [] [0, 1, 5, 9] false [
           (none, .mv 6 (.v 5)),
           (none, .mv 7 (.v 0)),
           (none, .len 8 false (.v 7)),
           (none, .bin 9 .lss (.v 6) (.v 8))])
         (.cond (.v 9)
          (.skip [0, 1, 5])
          (.exit 0 [])))
        (.seq
         (.block 1
          (.seq
           (.region [(14, 0, false), (12, 0, false)] [] [0, 1, 5, 17] false [
             (none, .mv 12 (.v 0)),
             (none, .mv 13 (.v 5)),
             (none, .iadr 14 1 (.v 12) (.v 13)),
             (none, .load 15 false 1 (.v 14) none),
             (none, .mv 16 (.v 1)),
             (none, .bin 17 .eql (.v 15) (.v 16))])
           (.cond (.v 17)
            (.seq
             (.region [] [] [4] false [
               (none, .asg 4 (.c (.bool true)) .copy)])
             (.ret [4]))
            (.skip [0, 1, 5]))))
         (.region [] [] [0, 1, 5] false [
           (none, .mv 10 (.v 5)),
           (none, .bin 11 .add (.v 10) (.c (.int .i64 1))),
           (none, .asg 5 (.v 11) .copy)]))))))
    (.seq
     (.region [] [] [4] false [
       (none, .asg 4 (.c (.bool false)) .copy)])
     (.ret [4]))))⟩
def F386 : PFunc :=
 ⟨[false, false], [.tmp 4],
  (.seq
   (.region [] [] [0, 1] false [
     (none, .asg 4 (.c (.bool false)) .copy)])
   (.seq
    (.region [(9, 1, false), (5, 0, false)] [] [4] false [
      (none, .mv 5 (.v 0)),
      (none, .len 6 false (.v 5)),
      (none, .bin 7 .gtr (.v 6) (.c (.int .i64 3000))),
      (none, .mv 8 (.v 7)),
      (some (8, false), .mv 9 (.v 1)),
      (some (8, false), .len 10 false (.v 9)),
      (some (8, false), .bin 11 .gtr (.v 10) (.c (.int .i64 3000))),
      (none, .pick 12 (.v 8) (.c (.bool true)) (.v 11)),
      (none, .asg 4 (.v 12) .copy)])
    (.ret [4])))⟩
def F388 : PFunc :=
 ⟨[false, false], [.tmp 4],
  (.seq
   (.region [] [] [0, 1] false [
     (none, .asg 4 (.c (.bool false)) .copy)])
   (.seq
    (.seq
     (.region [] [] [0, 1, 5] false [
       (none, .asg 5 (.c (.int .i64 0)) .copy)])
     (.block 0
      (.loop
       (.seq
        (.seq
         (.region [(7, 0, false)] [] [0, 1, 5, 9] false [
           (none, .mv 6 (.v 5)),
           (none, .mv 7 (.v 0)),
           (none, .len 8 false (.v 7)),
           (none, .bin 9 .lss (.v 6) (.v 8))])
         (.cond (.v 9)
          (.skip [0, 1, 5])
          (.exit 0 [])))
        (.seq
         (.block 1
          (.seq
           (.region [(36, 0, false), (34, 0, false), (32, 0, false), (29, 0, false), (20, 0, false), (18, 0, false), (14, 0, false), (12, 0, false)] [] [0, 1, 5, 40] true [
             (none, .mv 12 (.v 0)),
             (none, .mv 13 (.v 5)),
             (none, .iadr 14 1 (.v 12) (.v 13)),
             (none, .load 15 false 1 (.v 14) none),
             (none, .bin 16 .lss (.v 15) (.c (.int .i64 0))),
             (none, .mv 17 (.v 16)),
             (some (17, false), .mv 18 (.v 0)),
             (some (17, false), .mv 19 (.v 5)),
             (some (17, false), .iadr 20 1 (.v 18) (.v 19)),
             (some (17, false), .load 21 false 1 (.v 20) none),
             (some (17, false), .mv 22 (.v 1)),
             (some (17, false), .bin 23 .geq (.v 21) (.v 22)),
             (none, .pick 24 (.v 17) (.c (.bool true)) (.v 23)),
             (none, .mv 25 (.v 24)),
             (some (25, false), .mv 26 (.v 5)),
             (some (25, false), .bin 27 .gtr (.v 26) (.c (.int .i64 0))),
             (some (25, false), .mv 28 (.v 27)),
             (some (28, true), .mv 29 (.v 0)),
             (some (28, true), .mv 30 (.v 5)),
             (some (28, true), .bin 31 .sub (.v 30) (.c (.int .i64 1))),
             (some (28, true), .iadr 32 1 (.v 29) (.v 31)),
             (some (28, true), .load 33 false 1 (.v 32) none),
             (some (28, true), .mv 34 (.v 0)),
             (some (28, true), .mv 35 (.v 5)),
             (some (28, true), .iadr 36 1 (.v 34) (.v 35)),
             (some (28, true), .load 37 false 1 (.v 36) none),
             (some (28, true), .bin 38 .geq (.v 33) (.v 37)),
             (some (25, false), .pick 39 (.v 28) (.v 38) (.c (.bool false))),
             (none, .pick 40 (.v 25) (.c (.bool true)) (.v 39))])
           (.cond (.v 40)
            (.seq
             (.region [] [] [4] false [
               (none, .asg 4 (.c (.bool false)) .copy)])
             (.ret [4]))
            (.skip [0, 1, 5]))))
         (.region [] [] [0, 1, 5] false [
           (none, .mv 10 (.v 5)),
           (none, .bin 11 .add (.v 10) (.c (.int .i64 1))),
           (none, .asg 5 (.v 11) .copy)]))))))
    (.seq
     (.region [] [] [4] false [
       (none, .asg 4 (.c (.bool true)) .copy)])
     (.ret [4]))))⟩
def F5 : PFunc :=
 ⟨[true], [.tmp 2],
  (.seq
   (.region [] [] [0] false [
     (none, .asg 2 (.c (.int .i64 0)) .copy)])
   (.seq
    (.region [] [] [0, 3] false [
      (none, .asg 3 (.c (.int .i64 0)) .copy)])
    (.seq
     (.seq
      (.region [(11, 0, true), (10, 0, false), (9, 0, false), (8, 0, false), (6, 0, false), (5, 0, false), (4, 0, false)] [] [0, 3, 13] true [
        (none, .mvr 4 0),
        (none, .nchk 5 (.v 4)),
        (none, .fadr 6 1 1 (.v 5)),
        (none, .load 7 false 1 (.v 6) none),
        (none, .mvr 8 0),
        (none, .nchk 9 (.v 8)),
        (none, .fadr 10 0 1 (.v 9)),
        (none, .load 11 false 1 (.v 10) none),
        (none, .len 12 false (.v 11)),
        (none, .bin 13 .lss (.v 7) (.v 12))])
      (.cond (.v 13)
       (.region [(22, 0, true), (20, 0, false), (19, 0, false), (18, 0, false), (17, 0, true), (16, 0, false), (15, 0, false), (14, 0, false)] [] [0, 3] true [
         (none, .mvr 14 0),
         (none, .nchk 15 (.v 14)),
         (none, .fadr 16 0 1 (.v 15)),
         (none, .load 17 false 1 (.v 16) none),
         (none, .mvr 18 0),
         (none, .nchk 19 (.v 18)),
         (none, .fadr 20 1 1 (.v 19)),
         (none, .load 21 false 1 (.v 20) none),
         (none, .iadr 22 1 (.v 17) (.v 21)),
         (none, .load 23 false 1 (.v 22) none),
         (none, .conv 24 .i64 (.v 23)),
         (none, .asg 3 (.v 24) .copy)])
       (.skip [0, 3])))
     (.seq
      (.region [(31, 0, false), (30, 0, false), (27, 0, false), (26, 0, false), (25, 0, false)] [] [0, 3] false [
        (none, .mv 25 (.v 0)),
        (none, .nchk 26 (.v 25)),
        (none, .fadr 27 1 1 (.v 26)),
        (none, .load 28 false 1 (.v 27) none),
        (none, .bin 29 .add (.v 28) (.c (.int .i64 1))),
        (none, .nchk 30 (.v 25)),
        (none, .fadr 31 1 1 (.v 30)),
        (none, .store 1 (.v 31) (.v 29) .copy)])
      (.seq
       (.region [(43, 0, false), (42, 0, false), (35, 0, false), (34, 0, false), (33, 0, false), (32, 0, false)] [] [0, 3] false [
         (none, .mv 32 (.v 0)),
         (none, .mv 33 (.v 0)),
         (none, .nchk 34 (.v 33)),
         (none, .fadr 35 2 1 (.v 34)),
         (none, .load 36 false 1 (.v 35) none),
         (none, .bin 37 .mul (.v 36) (.c (.int .u64 6364136223846793005))),
         (none, .mv 38 (.v 3)),
         (none, .conv 39 .u64 (.v 38)),
         (none, .bin 40 .add (.v 37) (.v 39)),
         (none, .bin 41 .add (.v 40) (.c (.int .u64 1442695040888963407))),
         (none, .nchk 42 (.v 32)),
         (none, .fadr 43 2 1 (.v 42)),
         (none, .store 1 (.v 43) (.v 41) .copy)])
       (.seq
        (.seq
         (.region [(51, 0, true), (50, 0, false), (49, 0, false), (48, 0, false), (46, 0, false), (45, 0, false), (44, 0, false)] [] [0, 3, 53] true [
           (none, .mvr 44 0),
           (none, .nchk 45 (.v 44)),
           (none, .fadr 46 1 1 (.v 45)),
           (none, .load 47 false 1 (.v 46) none),
           (none, .mvr 48 0),
           (none, .nchk 49 (.v 48)),
           (none, .fadr 50 0 1 (.v 49)),
           (none, .load 51 false 1 (.v 50) none),
           (none, .len 52 false (.v 51)),
           (none, .bin 53 .leq (.v 47) (.v 52))])
         (.cond (.v 53)
          (.seq
           (.region [] [] [0, 2] false [
             (none, .mv 54 (.v 3)),
             (none, .asg 2 (.v 54) .copy)])
           (.ret [0, 2]))
          (.skip [0])))
        (.seq
         (.region [(57, 0, false), (56, 0, false), (55, 0, false)] [] [0, 2] false [
           (none, .mv 55 (.v 0)),
           (none, .nchk 56 (.v 55)),
           (none, .fadr 57 2 1 (.v 56)),
           (none, .load 58 false 1 (.v 57) none),
           (none, .bin 59 .shr (.v 58) (.c (.int .u64 40))),
           (none, .bin 60 .and (.v 59) (.c (.int .u64 255))),
           (none, .conv 61 .i64 (.v 60)),
           (none, .asg 2 (.v 61) .copy)])
         (.ret [0, 2]))))))))⟩
def F7 : PFunc :=
 ⟨[true, false], [.tmp 4],
  (.seq
   (.region [] [] [0, 1] false [
     (none, .asg 4 (.c (.int .i64 0)) .copy)])
   (.seq
    (.seq
     (.region [] [] [0, 1, 7] false [
       (none, .mv 6 (.v 1)),
       (none, .bin 7 .leq (.v 6) (.c (.int .i64 1)))])
     (.cond (.v 7)
      (.seq
       (.region [] [] [0, 4] false [
         (none, .asg 4 (.c (.int .i64 0)) .copy)])
       (.ret [0, 4]))
      (.skip [0, 1])))
    (.seq
     (.region [(8, 0, false)] [] [0, 1, 5] false [
       (none, .mv 8 (.v 0)),
       (none, .call (some 9) 5 true [((.v 8), true)]),
       (none, .asg 5 (.v 9) .copy)])
     (.seq
      (.seq
       (.region [] [] [0, 1, 5, 11] false [
         (none, .mv 10 (.v 1)),
         (none, .bin 11 .gtr (.v 10) (.c (.int .i64 200)))])
       (.cond (.v 11)
        (.region [(14, 0, false)] [] [0, 1, 5] false [
          (none, .mv 12 (.v 5)),
          (none, .bin 13 .mul (.v 12) (.c (.int .i64 256))),
          (none, .mv 14 (.v 0)),
          (none, .call (some 15) 5 true [((.v 14), true)]),
          (none, .bin 16 .add (.v 13) (.v 15)),
          (none, .asg 5 (.v 16) .copy)])
        (.skip [0, 1, 5])))
      (.seq
       (.region [] [] [0, 4] false [
         (none, .mv 17 (.v 5)),
         (none, .mv 18 (.v 1)),
         (none, .bin 19 .rem (.v 17) (.v 18)),
         (none, .asg 4 (.v 19) .copy)])
       (.ret [0, 4]))))))⟩
def F603 : PFunc :=
 ⟨[false], [.tmp 2],
  (.seq
   (.region [] [] [0] false [
     (none, .asg 2 (.c .nilp) .copy)])
   (.seq
    (.region [(3, 0, false)] [] [2] false [
      (none, .mv 3 (.v 0)),
      (none, .build 4 [(.sl false 1 []), (.int .i64 0), (.int .u64 0)] [(0, 1, (.v 3), .move)]),
      (none, .box 5 (.v 4) .move),
      (none, .asg 2 (.v 5) .move)])
    (.ret [2])))⟩
def F701 : PFunc :=
 ⟨[true], [.cell 2 true 2],
  (.seq
   (.region [] [] [0, 2] false [
     (none, .new 2 (.agg [(.sl true 1 []), (.sl true 4 [])]))])
   (.seq
    (.region [] [] [0, 2, 3] false [
      (none, .mksl 8 1 (.int .i64 0) 0 []),
      (none, .mksl 9 4 (.agg [(.int .i64 0), (.int .i64 0), (.int .i64 0), (.int .i64 0)]) 0 []),
      (none, .build 10 [(.sl true 1 []), (.sl true 4 [])] [(0, 1, (.v 8), .move), (1, 1, (.v 9), .move)]),
      (none, .new 3 (.agg [(.sl true 1 []), (.sl true 4 [])])),
      (none, .store 2 (.v 3) (.v 10) .move)])
    (.seq
     (.seq
      (.region [(11, 0, false)] [] [0, 2, 3, 4] false [
        (none, .mv 11 (.v 0)),
        (none, .call (some 12) 7 true [((.v 11), true), ((.c (.int .i64 3)), false)]),
        (none, .bin 13 .add (.c (.int .i64 1)) (.v 12)),
        (none, .asg 4 (.v 13) .copy)])
      (.block 0
       (.loop
        (.seq
         (.seq
          (.region [] [] [0, 2, 3, 4, 15] false [
            (none, .mv 14 (.v 4)),
            (none, .bin 15 .gtr (.v 14) (.c (.int .i64 0)))])
          (.cond (.v 15)
           (.skip [0, 2, 3, 4])
           (.exit 0 [0, 2, 3])))
         (.seq
          (.block 1
           (.region [(25, 3, false), (20, 0, false), (19, 3, true), (18, 3, false)] [] [0, 2, 3, 4] true [
             (none, .fadr 18 0 1 (.v 3)),
             (none, .load 19 false 1 (.v 18) none),
             (none, .mvr 20 0),
             (none, .call (some 21) 7 true [((.v 20), true), ((.c (.int .i64 4)), false)]),
             (none, .bin 22 .add (.c (.int .i64 1)) (.v 21)),
             (none, .mksl 23 1 (.int .i64 0) 1 [(0, (.v 22), .copy)]),
             (none, .app 24 1 (.v 19) (.v 23) .move),
             (none, .fadr 25 0 1 (.v 3)),
             (none, .store 1 (.v 25) (.v 24) .move)]))
          (.region [] [] [0, 2, 3, 4] false [
            (none, .mv 16 (.v 4)),
            (none, .bin 17 .sub (.v 16) (.c (.int .i64 1))),
            (none, .asg 4 (.v 17) .copy)]))))))
     (.seq
      (.region [(27, 3, true), (26, 3, false)] [] [0, 2, 3, 5] false [
        (none, .fadr 26 0 1 (.v 3)),
        (none, .load 27 false 1 (.v 26) none),
        (none, .len 28 false (.v 27)),
        (none, .asg 5 (.v 28) .copy)])
      (.seq
       (.seq
        (.region [(29, 0, false)] [] [0, 2, 3, 5, 6] false [
          (none, .mv 29 (.v 0)),
          (none, .call (some 30) 7 true [((.v 29), true), ((.c (.int .i64 6)), false)]),
          (none, .asg 6 (.v 30) .copy)])
        (.block 2
         (.loop
          (.seq
           (.seq
            (.region [] [] [0, 2, 3, 5, 6, 36] false [
              (none, .mv 31 (.v 6)),
              (none, .bin 32 .gtr (.v 31) (.c (.int .i64 0))),
              (none, .mv 33 (.v 32)),
              (some (33, true), .mv 34 (.v 5)),
              (some (33, true), .bin 35 .gtr (.v 34) (.c (.int .i64 1))),
              (none, .pick 36 (.v 33) (.v 35) (.c (.bool false)))])
            (.cond (.v 36)
             (.skip [0, 2, 3, 5, 6])
             (.exit 2 [0, 2, 3])))
           (.seq
            (.block 3
             (.seq
              (.region [(39, 0, false)] [] [0, 2, 3, 5, 6, 7] false [
                (none, .mv 39 (.v 0)),
                (none, .mv 40 (.v 5)),
                (none, .bin 41 .sub (.v 40) (.c (.int .i64 1))),
                (none, .call (some 42) 7 true [((.v 39), true), ((.v 41), false)]),
                (none, .bin 43 .add (.c (.int .i64 1)) (.v 42)),
                (none, .build 44 [(.int .i64 0), (.int .i64 0), (.int .i64 0), (.int .i64 0)] [(2, 1, (.v 43), .copy)]),
                (none, .new 7 (.agg [(.int .i64 0), (.int .i64 0), (.int .i64 0), (.int .i64 0)])),
                (none, .store 4 (.v 7) (.v 44) .copy)])
              (.seq
               (.region [(49, 7, false), (46, 7, false), (45, 0, false)] [] [0, 2, 3, 5, 6, 7] false [
                 (none, .mv 45 (.v 0)),
                 (none, .fadr 46 2 1 (.v 7)),
                 (none, .load 47 false 1 (.v 46) none),
                 (none, .call (some 48) 7 true [((.v 45), true), ((.v 47), false)]),
                 (none, .fadr 49 0 1 (.v 7)),
                 (none, .store 1 (.v 49) (.v 48) .copy)])
               (.seq
                (.region [(58, 7, false), (55, 3, true), (53, 7, false), (52, 3, true), (51, 3, false), (50, 0, false)] [] [0, 2, 3, 5, 6, 7] false [
                  (none, .mv 50 (.v 0)),
                  (none, .fadr 51 0 1 (.v 3)),
                  (none, .load 52 false 1 (.v 51) none),
                  (none, .fadr 53 0 1 (.v 7)),
                  (none, .load 54 false 1 (.v 53) none),
                  (none, .iadr 55 1 (.v 52) (.v 54)),
                  (none, .load 56 false 1 (.v 55) none),
                  (none, .call (some 57) 7 true [((.v 50), true), ((.v 56), false)]),
                  (none, .fadr 58 1 1 (.v 7)),
                  (none, .store 1 (.v 58) (.v 57) .copy)])
                (.seq
                 (.region [(67, 7, false), (64, 3, true), (62, 7, false), (61, 3, true), (60, 3, false), (59, 0, false)] [] [0, 2, 3, 5, 6, 7] false [
                   (none, .mv 59 (.v 0)),
                   (none, .fadr 60 0 1 (.v 3)),
                   (none, .load 61 false 1 (.v 60) none),
                   (none, .fadr 62 2 1 (.v 7)),
                   (none, .load 63 false 1 (.v 62) none),
                   (none, .iadr 64 1 (.v 61) (.v 63)),
                   (none, .load 65 false 1 (.v 64) none),
                   (none, .call (some 66) 7 true [((.v 59), true), ((.v 65), false)]),
                   (none, .fadr 67 3 1 (.v 7)),
                   (none, .store 1 (.v 67) (.v 66) .copy)])
                 (.region [(73, 3, false), (69, 3, true), (68, 3, false)] [] [0, 2, 3, 5, 6] false [
                   (none, .fadr 68 1 1 (.v 3)),
                   (none, .load 69 false 1 (.v 68) none),
                   (none, .load 70 true 4 (.v 7) none),
                   (none, .mksl 71 4 (.agg [(.int .i64 0), (.int .i64 0), (.int .i64 0), (.int .i64 0)]) 1 [(0, (.v 70), .copy)]),
                   (none, .app 72 4 (.v 69) (.v 71) .move),
                   (none, .fadr 73 1 1 (.v 3)),
                   (none, .store 1 (.v 73) (.v 72) .move)]))))))
            (.region [] [] [0, 2, 3, 5, 6] false [
              (none, .mv 37 (.v 6)),
              (none, .bin 38 .sub (.v 37) (.c (.int .i64 1))),
              (none, .asg 6 (.v 38) .copy)]))))))
       (.seq
        (.region [] [] [0, 2] false [
          (none, .load 74 true 2 (.v 3) (some .move)),
          (none, .store 2 (.v 2) (.v 74) .move)])
        (.ret [0, 2])))))))⟩
def F702 : PFunc :=
 ⟨[false, false], [.tmp 4],
  (.seq
   (.region [] [] [0, 1] false [
     (none, .asg 4 (.c (.bool false)) .copy)])
   (.seq
    (.seq
     (.region [] [] [0, 1, 5] false [
       (none, .asg 5 (.c (.int .i64 0)) .copy)])
     (.block 0
      (.loop
       (.seq
        (.seq
         (.region [(11, 0, true), (10, 0, false), (9, 0, false), (8, 0, false)] [] [0, 1, 5, 13] false [
           (none, .mv 7 (.v 5)),
           (none, .mv 8 (.v 0)),
           (none, .nchk 9 (.v 8)),
           (none, .fadr 10 1 1 (.v 9)),
           (none, .load 11 false 1 (.v 10) none),
           (none, .len 12 false (.v 11)),
           (none, .bin 13 .lss (.v 7) (.v 12))])
         (.cond (.v 13)
          (.skip [0, 1, 5])
          (.exit 0 [])))
        (.seq
         (.block 1
          (.seq
           (.region [(21, 0, true), (19, 0, true), (18, 0, false), (17, 0, false), (16, 0, false)] [] [0, 1, 5, 6] false [
             (none, .mv 16 (.v 0)),
             (none, .nchk 17 (.v 16)),
             (none, .fadr 18 1 1 (.v 17)),
             (none, .load 19 false 1 (.v 18) none),
             (none, .mv 20 (.v 5)),
             (none, .iadr 21 4 (.v 19) (.v 20)),
             (none, .load 22 true 4 (.v 21) none),
             (none, .new 6 (.agg [(.int .i64 0), (.int .i64 0), (.int .i64 0), (.int .i64 0)])),
             (none, .store 4 (.v 6) (.v 22) .copy)])
           (.seq
            (.region [(37, 6, false), (35, 1, false), (33, 6, false), (32, 1, false), (28, 6, false), (26, 1, false), (24, 6, false), (23, 1, false)] [] [0, 1, 5, 40] true [
              (none, .mv 23 (.v 1)),
              (none, .fadr 24 0 1 (.v 6)),
              (none, .load 25 false 1 (.v 24) none),
              (none, .iadr 26 1 (.v 23) (.v 25)),
              (none, .load 27 false 1 (.v 26) none),
              (none, .fadr 28 1 1 (.v 6)),
              (none, .load 29 false 1 (.v 28) none),
              (none, .bin 30 .eql (.v 27) (.v 29)),
              (none, .mv 31 (.v 30)),
              (some (31, true), .mv 32 (.v 1)),
              (some (31, true), .fadr 33 2 1 (.v 6)),
              (some (31, true), .load 34 false 1 (.v 33) none),
              (some (31, true), .iadr 35 1 (.v 32) (.v 34)),
              (some (31, true), .load 36 false 1 (.v 35) none),
              (some (31, true), .fadr 37 3 1 (.v 6)),
              (some (31, true), .load 38 false 1 (.v 37) none),
              (some (31, true), .bin 39 .eql (.v 36) (.v 38)),
              (none, .pick 40 (.v 31) (.v 39) (.c (.bool false)))])
            (.cond (.v 40)
             (.seq
              (.region [] [] [4] false [
                (none, .asg 4 (.c (.bool false)) .copy)])
              (.ret [4]))
             (.skip [0, 1, 5])))))
         (.region [] [] [0, 1, 5] false [
           (none, .mv 14 (.v 5)),
           (none, .bin 15 .add (.v 14) (.c (.int .i64 1))),
           (none, .asg 5 (.v 15) .copy)]))))))
    (.seq
     (.region [] [] [4] false [
       (none, .asg 4 (.c (.bool true)) .copy)])
     (.ret [4]))))⟩
def F435 : PFunc :=
 ⟨[false], [.cell 2 true 2, .tmp 3],
  (.seq
   (.region [] [] [0, 2] false [
     (none, .new 2 (.agg [(.sl true 1 []), (.sl true 4 [])])),
     (none, .asg 3 (.c (.sl true 1 [])) .copy)])
   (.seq
    (.region [(9, 0, false)] [] [2, 4] false [
      (none, .mv 9 (.v 0)),
      (none, .call (some 10) 603 true [((.v 9), false)]),
      (none, .asg 4 (.v 10) .move)])
    (.seq
     (.region [(11, 4, false)] [] [2, 4, 5] false [
       (none, .mv 11 (.v 4)),
       (none, .call (some 12) 701 true [((.v 11), true)]),
       (none, .new 5 (.agg [(.sl true 1 []), (.sl true 4 [])])),
       (none, .store 2 (.v 5) (.v 12) .move)])
     (.seq
      (.seq
       (.region [] [] [2, 4, 5, 6] false [
         (none, .asg 6 (.c (.int .i64 0)) .copy)])
       (.block 0
        (.loop
         (.seq
          (.seq
           (.region [] [] [2, 4, 5, 6, 14] false [
             (none, .mv 13 (.v 6)),
             (none, .bin 14 .lss (.v 13) (.c (.int .i64 6)))])
           (.cond (.v 14)
            (.skip [2, 4, 5, 6])
            (.exit 0 [2, 5])))
          (.seq
           (.block 1
            (.seq
             (.region [] [] [2, 4, 5, 6, 7] false [
               (none, .mksl 17 1 (.int .i64 0) 0 []),
               (none, .asg 7 (.v 17) .move)])
             (.seq
              (.seq
               (.region [] [] [2, 4, 5, 6, 7, 8] false [
                 (none, .asg 8 (.c (.int .i64 0)) .copy)])
               (.block 2
                (.loop
                 (.seq
                  (.seq
                   (.region [(20, 5, true), (19, 5, false)] [] [2, 4, 5, 6, 7, 8, 22] false [
                     (none, .mv 18 (.v 8)),
                     (none, .fadr 19 0 1 (.v 5)),
                     (none, .load 20 false 1 (.v 19) none),
                     (none, .len 21 false (.v 20)),
                     (none, .bin 22 .lss (.v 18) (.v 21))])
                   (.cond (.v 22)
                    (.skip [2, 4, 5, 6, 7, 8])
                    (.exit 2 [2, 4, 5, 6, 7])))
                  (.seq
                   (.block 3
                    (.region [(30, 5, true), (28, 5, true), (27, 5, false), (26, 4, false), (25, 7, false)] [] [2, 4, 5, 6, 7, 8] false [
                      (none, .mv 25 (.v 7)),
                      (none, .mv 26 (.v 4)),
                      (none, .fadr 27 0 1 (.v 5)),
                      (none, .load 28 false 1 (.v 27) none),
                      (none, .mv 29 (.v 8)),
                      (none, .iadr 30 1 (.v 28) (.v 29)),
                      (none, .load 31 false 1 (.v 30) none),
                      (none, .call (some 32) 7 true [((.v 26), true), ((.v 31), false)]),
                      (none, .mksl 33 1 (.int .i64 0) 1 [(0, (.v 32), .copy)]),
                      (none, .app 34 1 (.v 25) (.v 33) .move),
                      (none, .asg 7 (.v 34) .move)]))
                   (.region [] [] [2, 4, 5, 6, 7, 8] false [
                     (none, .mv 23 (.v 8)),
                     (none, .bin 24 .add (.v 23) (.c (.int .i64 1))),
                     (none, .asg 8 (.v 24) .copy)]))))))
              (.seq
               (.region [(35, 7, false)] [] [2, 4, 5, 6, 7, 36] false [
                 (none, .mv 35 (.v 7)),
                 (none, .call (some 36) 702 false [((.v 5), false), ((.v 35), false)])])
               (.cond (.v 36)
                (.seq
                 (.region [(38, 7, false)] [] [2, 3] false [
                   (none, .load 37 true 2 (.v 5) (some .move)),
                   (none, .mv 38 (.v 7)),
                   (none, .store 2 (.v 2) (.v 37) .move),
                   (none, .asg 3 (.v 38) .move)])
                 (.ret [2, 3]))
                (.skip [2, 4, 5, 6]))))))
           (.region [] [] [2, 4, 5, 6] false [
             (none, .mv 15 (.v 6)),
             (none, .bin 16 .add (.v 15) (.c (.int .i64 1))),
             (none, .asg 6 (.v 16) .copy)]))))))
      (.seq
       (.region [] [] [2, 3] false [
         (none, .load 39 true 2 (.v 5) (some .move)),
         (none, .mksl 40 1 (.int .i64 0) 0 []),
         (none, .store 2 (.v 2) (.v 39) .move),
         (none, .asg 3 (.v 40) .move)])
       (.ret [2, 3]))))))⟩
def F353 : PFunc :=
 ⟨[false], [.tmp 2],
  (.seq
   (.region [] [] [0] false [
     (none, .asg 2 (.c (.bool false)) .copy)])
   (.seq
    (.seq
     (.region [(17, 0, false)] [] [0, 18] false [
       (none, .mv 17 (.v 0)),
       (none, .call (some 18) 386 false [((.v 17), false), ((.c (.sl false 1 [])), false)])])
     (.cond (.v 18)
      (.seq
       (.region [] [] [2] false [
         (none, .asg 2 (.c (.bool true)) .copy)])
       (.ret [2]))
      (.skip [0])))
    (.seq
     (.region [(20, 0, false)] [] [3, 4] false [
       (none, .mv 20 (.v 0)),
       (none, .call (some 21) 435 false [((.v 20), false)]),
       (none, .asg 19 (.v 21) .move),
       (none, .ext 22 (.v 19) 0),
       (none, .ext 23 (.v 19) 1),
       (none, .new 3 (.agg [(.sl true 1 []), (.sl true 4 [])])),
       (none, .store 2 (.v 3) (.v 22) .move),
       (none, .asg 4 (.v 23) .move)])
     (.seq
      (.seq
       (.region [(24, 4, false)] [] [3, 4, 26] false [
         (none, .mv 24 (.v 4)),
         (none, .len 25 false (.v 24)),
         (none, .bin 26 .eql (.v 25) (.c (.int .i64 0)))])
       (.cond (.v 26)
        (.seq
         (.region [] [] [2] false [
           (none, .asg 2 (.c (.bool true)) .copy)])
         (.ret [2]))
        (.skip [3, 4])))
      (.seq
       (.region [(29, 4, false)] [] [3, 4, 5, 6] false [
         (none, .load 28 true 2 (.v 3) (some .freeze)),
         (none, .mv 29 (.v 4)),
         (none, .call (some 30) 70 false [((.v 28), false), ((.v 29), false)]),
         (none, .asg 27 (.v 30) .copy),
         (none, .extp 31 (.v 27) 0),
         (none, .extp 32 (.v 27) 1),
         (none, .asg 5 (.v 31) .copy),
         (none, .asg 6 (.v 32) .copy)])
       (.seq
        (.region [(35, 4, false)] [] [3, 4, 5, 6, 7, 8] false [
          (none, .load 34 true 2 (.v 3) (some .freeze)),
          (none, .mv 35 (.v 4)),
          (none, .call (some 36) 205 false [((.v 34), false), ((.v 35), false)]),
          (none, .asg 33 (.v 36) .move),
          (none, .ext 37 (.v 33) 0),
          (none, .extp 38 (.v 33) 1),
          (none, .asg 7 (.v 37) .move),
          (none, .asg 8 (.v 38) .copy)])
        (.seq
         (.region [] [] [3, 4, 5, 6, 7, 8, 9] false [
           (none, .asg 9 (.c (.int .i64 1)) .copy)])
         (.seq
          (.seq
           (.region [] [] [3, 4, 5, 6, 7, 8, 9, 10] false [
             (none, .asg 10 (.c (.int .i64 0)) .copy)])
           (.block 0
            (.loop
             (.seq
              (.seq
               (.region [(41, 3, true), (40, 3, false)] [] [3, 4, 5, 6, 7, 8, 9, 10, 43] false [
                 (none, .mv 39 (.v 10)),
                 (none, .fadr 40 0 1 (.v 3)),
                 (none, .load 41 false 1 (.v 40) none),
                 (none, .len 42 false (.v 41)),
                 (none, .bin 43 .lss (.v 39) (.v 42))])
               (.cond (.v 43)
                (.skip [3, 4, 5, 6, 7, 8, 9, 10])
                (.exit 0 [3, 4, 5, 6, 7, 8, 9])))
              (.seq
               (.block 1
                (.region [(50, 3, true), (48, 3, true), (47, 3, false)] [] [3, 4, 5, 6, 7, 8, 9, 10] false [
                  (none, .mv 46 (.v 9)),
                  (none, .fadr 47 0 1 (.v 3)),
                  (none, .load 48 false 1 (.v 47) none),
                  (none, .mv 49 (.v 10)),
                  (none, .iadr 50 1 (.v 48) (.v 49)),
                  (none, .load 51 false 1 (.v 50) none),
                  (none, .bin 52 .mul (.v 46) (.v 51)),
                  (none, .asg 9 (.v 52) .copy)]))
               (.region [] [] [3, 4, 5, 6, 7, 8, 9, 10] false [
                 (none, .mv 44 (.v 10)),
                 (none, .bin 45 .add (.v 44) (.c (.int .i64 1))),
                 (none, .asg 10 (.v 45) .copy)]))))))
          (.seq
           (.seq
            (.region [(71, 3, true), (70, 3, false), (69, 7, false)] [] [3, 4, 5, 7, 9, 75] false [
              (none, .mv 53 (.v 6)),
              (none, .bin 54 .neq (.v 53) (.c (.int .i64 0))),
              (none, .mv 55 (.v 54)),
              (some (55, false), .mv 56 (.v 5)),
              (some (55, false), .bin 57 .lss (.v 56) (.c (.int .i64 1))),
              (none, .pick 58 (.v 55) (.c (.bool true)) (.v 57)),
              (none, .mv 59 (.v 58)),
              (some (59, false), .mv 60 (.v 5)),
              (some (59, false), .mv 61 (.v 9)),
              (some (59, false), .bin 62 .gtr (.v 60) (.v 61)),
              (none, .pick 63 (.v 59) (.c (.bool true)) (.v 62)),
              (none, .mv 64 (.v 63)),
              (some (64, false), .mv 65 (.v 8)),
              (some (64, false), .bin 66 .neq (.v 65) (.c (.int .i64 0))),
              (none, .pick 67 (.v 64) (.c (.bool true)) (.v 66)),
              (none, .mv 68 (.v 67)),
              (some (68, false), .mv 69 (.v 7)),
              (some (68, false), .fadr 70 1 1 (.v 3)),
              (some (68, false), .load 71 false 1 (.v 70) none),
              (some (68, false), .len 72 false (.v 71)),
              (some (68, false), .call (some 73) 388 false [((.v 69), false), ((.v 72), false)]),
              (some (68, false), .un 74 .not (.v 73)),
              (none, .pick 75 (.v 68) (.c (.bool true)) (.v 74))])
            (.cond (.v 75)
             (.seq
              (.region [] [] [2] false [
                (none, .asg 2 (.c (.bool false)) .copy)])
              (.ret [2]))
             (.skip [3, 4, 5, 7, 9])))
           (.seq
            (.seq
             (.region [] [] [3, 4, 5, 7, 9, 11] false [
               (none, .asg 11 (.c (.int .i64 0)) .copy)])
             (.block 2
              (.loop
               (.seq
                (.seq
                 (.region [(78, 3, true), (77, 3, false)] [] [3, 4, 5, 7, 9, 11, 80] false [
                   (none, .mv 76 (.v 11)),
                   (none, .fadr 77 1 1 (.v 3)),
                   (none, .load 78 false 1 (.v 77) none),
                   (none, .len 79 false (.v 78)),
                   (none, .bin 80 .lss (.v 76) (.v 79))])
                 (.cond (.v 80)
                  (.skip [3, 4, 5, 7, 9, 11])
                  (.exit 2 [3, 4, 9])))
                (.seq
                 (.block 3
                  (.seq
                   (.region [(87, 3, true), (86, 3, false), (84, 3, true), (83, 3, false)] [] [3, 4, 5, 7, 9, 11, 12] true [
                     (none, .fadr 83 0 1 (.v 3)),
                     (none, .load 84 false 1 (.v 83) none),
                     (none, .mksl 85 4 (.agg [(.int .i64 0), (.int .i64 0), (.int .i64 0), (.int .i64 0)]) 0 []),
                     (none, .fadr 86 1 1 (.v 3)),
                     (none, .load 87 false 1 (.v 86) none),
                     (none, .mv 88 (.v 11)),
                     (none, .slc 89 false 4 (.v 87) none (some (.v 88)) .copy),
                     (none, .app 90 4 (.v 85) (.v 89) .copy),
                     (none, .build 91 [(.sl false 1 []), (.sl true 4 [])] [(0, 1, (.v 84), .copy), (1, 1, (.v 90), .move)]),
                     (none, .new 12 (.agg [(.sl false 1 []), (.sl true 4 [])])),
                     (none, .store 2 (.v 12) (.v 91) .move)])
                   (.seq
                    (.region [(100, 12, false), (95, 3, true), (94, 3, false), (93, 12, true), (92, 12, false)] [] [3, 4, 5, 7, 9, 11, 12] true [
                      (none, .fadr 92 1 1 (.v 12)),
                      (none, .load 93 false 1 (.v 92) none),
                      (none, .fadr 94 1 1 (.v 3)),
                      (none, .load 95 false 1 (.v 94) none),
                      (none, .mv 96 (.v 11)),
                      (none, .bin 97 .add (.v 96) (.c (.int .i64 1))),
                      (none, .slc 98 false 4 (.v 95) (some (.v 97)) none .copy),
                      (none, .app 99 4 (.v 93) (.v 98) .copy),
                      (none, .fadr 100 1 1 (.v 12)),
                      (none, .store 1 (.v 100) (.v 99) .move)])
                    (.seq
                     (.region [(103, 4, false)] [] [3, 4, 5, 7, 9, 11, 13, 14] false [
                       (none, .load 102 true 2 (.v 12) (some .move)),
                       (none, .mv 103 (.v 4)),
                       (none, .call (some 104) 70 false [((.v 102), false), ((.v 103), false)]),
                       (none, .asg 101 (.v 104) .copy),
                       (none, .extp 105 (.v 101) 0),
                       (none, .extp 106 (.v 101) 1),
                       (none, .asg 13 (.v 105) .copy),
                       (none, .asg 14 (.v 106) .copy)])
                     (.seq
                      (.region [(118, 7, false)] [] [3, 4, 5, 7, 9, 11, 122] false [
                        (none, .mv 107 (.v 14)),
                        (none, .bin 108 .neq (.v 107) (.c (.int .i64 0))),
                        (none, .mv 109 (.v 108)),
                        (some (109, false), .mv 110 (.v 13)),
                        (some (109, false), .mv 111 (.v 5)),
                        (some (109, false), .bin 112 .lss (.v 110) (.v 111)),
                        (none, .pick 113 (.v 109) (.c (.bool true)) (.v 112)),
                        (none, .mv 114 (.v 113)),
                        (some (114, false), .mv 115 (.v 13)),
                        (some (114, false), .mv 116 (.v 5)),
                        (some (114, false), .bin 117 .eql (.v 115) (.v 116)),
                        (some (114, false), .mv 118 (.v 7)),
                        (some (114, false), .mv 119 (.v 11)),
                        (some (114, false), .call (some 120) 385 false [((.v 118), false), ((.v 119), false)]),
                        (some (114, false), .eqb 121 true (.v 117) (.v 120)),
                        (none, .pick 122 (.v 114) (.c (.bool true)) (.v 121))])
                      (.cond (.v 122)
                       (.seq
                        (.region [] [] [2] false [
                          (none, .asg 2 (.c (.bool false)) .copy)])
                        (.ret [2]))
                       (.skip [3, 4, 5, 7, 9, 11])))))))
                 (.region [] [] [3, 4, 5, 7, 9, 11] false [
                   (none, .mv 81 (.v 11)),
                   (none, .bin 82 .add (.v 81) (.c (.int .i64 1))),
                   (none, .asg 11 (.v 82) .copy)]))))))
            (.seq
             (.region [(127, 4, false), (125, 3, true), (124, 3, false)] [] [9, 15, 16] false [
               (none, .fadr 124 0 1 (.v 3)),
               (none, .load 125 false 1 (.v 124) none),
               (none, .build 126 [(.sl false 1 []), (.sl true 4 [])] [(0, 1, (.v 125), .move)]),
               (none, .mv 127 (.v 4)),
               (none, .call (some 128) 70 false [((.v 126), false), ((.v 127), false)]),
               (none, .asg 123 (.v 128) .copy),
               (none, .extp 129 (.v 123) 0),
               (none, .extp 130 (.v 123) 1),
               (none, .asg 15 (.v 129) .copy),
               (none, .asg 16 (.v 130) .copy)])
             (.seq
              (.region [] [] [2] false [
                (none, .mv 131 (.v 16)),
                (none, .bin 132 .eql (.v 131) (.c (.int .i64 0))),
                (none, .mv 133 (.v 132)),
                (some (133, true), .mv 134 (.v 15)),
                (some (133, true), .mv 135 (.v 9)),
                (some (133, true), .bin 136 .eql (.v 134) (.v 135)),
                (none, .pick 137 (.v 133) (.v 136) (.c (.bool false))),
                (none, .asg 2 (.v 137) .copy)])
              (.ret [2])))))))))))))⟩
def tabl : List (Nat × PFunc) := [(22, F22), (820, F820), (798, F798), (21, F21), (326, F326), (24, F24), (23, F23), (25, F25), (233, F233), (234, F234), (818, F818), (796, F796), (232, F232), (310, F310), (311, F311), (817, F817), (795, F795), (309, F309), (70, F70), (794, F794), (205, F205), (385, F385), (386, F386), (388, F388), (5, F5), (7, F7), (603, F603), (701, F701), (702, F702), (435, F435), (353, F353)]
def T : Nat → Option PFunc := tabOf tabl
end Go.Vs.G
