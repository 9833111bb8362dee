/- The functions that the law reaches, in the small language, printed by program. No conditions. -/
import Derived.Test.YtmbjedkkombmjaaDXFewestCauses
import Derived.Test.YtmbjedkkombmjaaV4
set_option maxRecDepth 100000
open Go Go.Vs
namespace Go.Vs.G
def F116 : PFunc :=
 ⟨[false], [.tmp 2],
  (.seq
   (.region [] [] [0] false [
     (none, .asg 2 (.c (.bool false)) .copy)])
   (.seq
    (.seq
     (.region [] [] [0, 21] false [
       (none, .mv 4 (.v 0)),
       (none, .len 5 true (.v 4)),
       (none, .bin 6 .lss (.v 5) (.c (.int .i64 1))),
       (none, .mv 7 (.v 6)),
       (some (7, false), .mv 8 (.v 0)),
       (some (7, false), .len 9 true (.v 8)),
       (some (7, false), .bin 10 .gtr (.v 9) (.c (.int .i64 12))),
       (none, .pick 11 (.v 7) (.c (.bool true)) (.v 10)),
       (none, .mv 12 (.v 11)),
       (some (12, false), .mv 13 (.v 0)),
       (some (12, false), .idx 14 (.v 13) (.c (.int .i64 0))),
       (some (12, false), .bin 15 .lss (.v 14) (.c (.int .u8 97))),
       (none, .pick 16 (.v 12) (.c (.bool true)) (.v 15)),
       (none, .mv 17 (.v 16)),
       (some (17, false), .mv 18 (.v 0)),
       (some (17, false), .idx 19 (.v 18) (.c (.int .i64 0))),
       (some (17, false), .bin 20 .gtr (.v 19) (.c (.int .u8 122))),
       (none, .pick 21 (.v 17) (.c (.bool true)) (.v 20))])
     (.cond (.v 21)
      (.seq
       (.region [] [] [2] false [
         (none, .asg 2 (.c (.bool false)) .copy)])
       (.ret [2]))
      (.skip [0])))
    (.seq
     (.seq
      (.region [] [] [0, 3] false [
        (none, .asg 3 (.c (.int .i64 1)) .copy)])
      (.block 0
       (.loop
        (.seq
         (.seq
          (.region [] [] [0, 3, 25] false [
            (none, .mv 22 (.v 3)),
            (none, .mv 23 (.v 0)),
            (none, .len 24 true (.v 23)),
            (none, .bin 25 .lss (.v 22) (.v 24))])
          (.cond (.v 25)
           (.skip [0, 3])
           (.exit 0 [])))
         (.seq
          (.block 1
           (.seq
            (.region [] [] [0, 3, 55] false [
              (none, .mv 28 (.v 0)),
              (none, .mv 29 (.v 3)),
              (none, .idx 30 (.v 28) (.v 29)),
              (none, .bin 31 .lss (.v 30) (.c (.int .u8 97))),
              (none, .mv 32 (.v 31)),
              (some (32, false), .mv 33 (.v 0)),
              (some (32, false), .mv 34 (.v 3)),
              (some (32, false), .idx 35 (.v 33) (.v 34)),
              (some (32, false), .bin 36 .gtr (.v 35) (.c (.int .u8 122))),
              (none, .pick 37 (.v 32) (.c (.bool true)) (.v 36)),
              (none, .mv 38 (.v 37)),
              (some (38, true), .mv 39 (.v 0)),
              (some (38, true), .mv 40 (.v 3)),
              (some (38, true), .idx 41 (.v 39) (.v 40)),
              (some (38, true), .bin 42 .lss (.v 41) (.c (.int .u8 48))),
              (some (38, true), .mv 43 (.v 42)),
              (some (43, false), .mv 44 (.v 0)),
              (some (43, false), .mv 45 (.v 3)),
              (some (43, false), .idx 46 (.v 44) (.v 45)),
              (some (43, false), .bin 47 .gtr (.v 46) (.c (.int .u8 57))),
              (some (38, true), .pick 48 (.v 43) (.c (.bool true)) (.v 47)),
              (none, .pick 49 (.v 38) (.v 48) (.c (.bool false))),
              (none, .mv 50 (.v 49)),
              (some (50, true), .mv 51 (.v 0)),
              (some (50, true), .mv 52 (.v 3)),
              (some (50, true), .idx 53 (.v 51) (.v 52)),
              (some (50, true), .bin 54 .neq (.v 53) (.c (.int .u8 45))),
              (none, .pick 55 (.v 50) (.v 54) (.c (.bool false)))])
            (.cond (.v 55)
             (.seq
              (.region [] [] [2] false [
                (none, .asg 2 (.c (.bool false)) .copy)])
              (.ret [2]))
             (.skip [0, 3]))))
          (.region [] [] [0, 3] false [
            (none, .mv 26 (.v 3)),
            (none, .bin 27 .add (.v 26) (.c (.int .i64 1))),
            (none, .asg 3 (.v 27) .copy)]))))))
     (.seq
      (.region [] [] [2] false [
        (none, .asg 2 (.c (.bool true)) .copy)])
      (.ret [2])))))⟩
def F209 : PFunc :=
 ⟨[false, false], [.tmp 3],
  (.seq
   (.region [] [] [1, 2] false [
     (none, .box 2 (.v 0) .move),
     (none, .asg 3 (.c (.bool false)) .copy)])
   (.seq
    (.region [(6, 1, false), (4, 2, false)] [] [3] false [
      (none, .fadr 4 0 1 (.v 2)),
      (none, .load 5 false 1 (.v 4) none),
      (none, .fadr 6 0 1 (.v 1)),
      (none, .load 7 false 1 (.v 6) none),
      (none, .bin 8 .eql (.v 5) (.v 7)),
      (none, .asg 3 (.v 8) .copy)])
    (.ret [3])))⟩
def F326 : PFunc :=
 ⟨[false, false, false], [.tmp 6],
  (.seq
   (.region [] [] [0, 1, 2] false [
     (none, .asg 6 (.c (.bool false)) .copy)])
   (.seq
    (.region [] [] [6] false [
      (none, .mv 7 (.v 0)),
      (none, .mv 8 (.v 1)),
      (none, .bin 9 .geq (.v 7) (.v 8)),
      (none, .mv 10 (.v 9)),
      (some (10, true), .mv 11 (.v 0)),
      (some (10, true), .mv 12 (.v 2)),
      (some (10, true), .bin 13 .leq (.v 11) (.v 12)),
      (none, .pick 14 (.v 10) (.v 13) (.c (.bool false))),
      (none, .asg 6 (.v 14) .copy)])
    (.ret [6])))⟩
def F276 : PFunc :=
 ⟨[false, false], [.tmp 4],
  (.seq
   (.region [] [] [0, 1] false [
     (none, .asg 4 (.c (.bool false)) .copy)])
   (.seq
    (.seq
     (.region [(7, 0, false)] [] [0, 1, 7, 8, 9] false [
       (none, .mv 7 (.v 0)),
       (none, .len 8 false (.v 7)),
       (none, .mv 9 (.c (.int .i64 0)))])
     (.block 0
      (.loop
       (.seq
        (.region [(7, 0, false)] [] [0, 1, 7, 8, 9, 10] false [
          (none, .bin 10 .lss (.v 9) (.v 8))])
        (.seq
         (.cond (.v 10)
          (.skip [0, 1, 7, 8, 9])
          (.exit 0 []))
         (.seq
          (.block 1
           (.seq
            (.region [(12, 0, false), (7, 0, false)] [] [0, 1, 5, 6, 7, 8, 9] false [
              (none, .mv 11 (.v 9)),
              (none, .iadr 12 1 (.v 7) (.v 9)),
              (none, .load 13 false 1 (.v 12) none),
              (none, .asg 5 (.v 11) .copy),
              (none, .asg 6 (.v 13) .copy)])
            (.seq
             (.region [(26, 0, false), (23, 0, false), (7, 0, false)] [] [0, 1, 7, 8, 9, 31] false [
               (none, .mv 14 (.v 6)),
               (none, .mv 15 (.v 1)),
               (none, .bin 16 .sub (.v 15) (.c (.int .i64 1))),
               (none, .call (some 17) 326 false [((.v 14), false), ((.c (.int .i64 0)), false), ((.v 16), false)]),
               (none, .un 18 .not (.v 17)),
               (none, .mv 19 (.v 18)),
               (some (19, false), .mv 20 (.v 5)),
               (some (19, false), .bin 21 .gtr (.v 20) (.c (.int .i64 0))),
               (some (19, false), .mv 22 (.v 21)),
               (some (22, true), .mv 23 (.v 0)),
               (some (22, true), .mv 24 (.v 5)),
               (some (22, true), .bin 25 .sub (.v 24) (.c (.int .i64 1))),
               (some (22, true), .iadr 26 1 (.v 23) (.v 25)),
               (some (22, true), .load 27 false 1 (.v 26) none),
               (some (22, true), .mv 28 (.v 6)),
               (some (22, true), .bin 29 .geq (.v 27) (.v 28)),
               (some (19, false), .pick 30 (.v 22) (.v 29) (.c (.bool false))),
               (none, .pick 31 (.v 19) (.c (.bool true)) (.v 30))])
             (.cond (.v 31)
              (.seq
               (.region [] [] [4] false [
                 (none, .asg 4 (.c (.bool false)) .copy)])
               (.ret [4]))
              (.skip [0, 1, 7, 8, 9])))))
          (.region [(7, 0, false)] [] [0, 1, 7, 8, 9] false [
            (none, .bin 32 .add (.v 9) (.c (.int .i64 1))),
            (none, .mv 9 (.v 32))])))))))
    (.seq
     (.region [] [] [4] false [
       (none, .asg 4 (.c (.bool true)) .copy)])
     (.ret [4]))))⟩
def F821 : PFunc :=
 ⟨[false, false], [.tmp 4],
  (.seq
   (.region [] [] [0, 1] false [
     (none, .asg 4 (.c (.int .i64 0)) .copy)])
   (.seq
    (.seq
     (.region [(6, 0, false)] [] [0, 1, 7, 8] false [
       (none, .mv 6 (.v 0)),
       (none, .len 7 false (.v 6)),
       (none, .mv 8 (.c (.int .i64 0)))])
     (.block 0
      (.loop
       (.seq
        (.region [] [] [0, 1, 7, 8, 9] false [
          (none, .bin 9 .lss (.v 8) (.v 7))])
        (.seq
         (.cond (.v 9)
          (.skip [0, 1, 7, 8])
          (.exit 0 []))
         (.seq
          (.block 1
           (.seq
            (.region [] [] [0, 1, 5, 7, 8] false [
              (none, .mv 10 (.v 8)),
              (none, .asg 5 (.v 10) .copy)])
            (.seq
             (.region [(14, 0, false), (12, 0, false), (11, 1, false)] [] [0, 1, 5, 7, 8, 16] false [
               (none, .mv 11 (.v 1)),
               (none, .mv 12 (.v 0)),
               (none, .mv 13 (.v 5)),
               (none, .iadr 14 2 (.v 12) (.v 13)),
               (none, .load 15 true 2 (.v 14) (some .freeze)),
               (none, .callv (some 16) (.v 11) [(.v 15)])])
             (.cond (.v 16)
              (.seq
               (.region [] [] [4] false [
                 (none, .mv 17 (.v 5)),
                 (none, .asg 4 (.v 17) .copy)])
               (.ret [4]))
              (.skip [0, 1, 7, 8])))))
          (.region [] [] [0, 1, 7, 8] false [
            (none, .bin 18 .add (.v 8) (.c (.int .i64 1))),
            (none, .mv 8 (.v 18))])))))))
    (.seq
     (.region [] [] [4] false [
       (none, .asg 4 (.c (.int .i64 (-1))) .copy)])
     (.ret [4]))))⟩
def F799 : PFunc :=
 ⟨[false, false], [.tmp 4],
  (.seq
   (.region [] [] [0, 1] false [
     (none, .asg 4 (.c (.bool false)) .copy)])
   (.seq
    (.region [(6, 1, false), (5, 0, false)] [] [4] false [
      (none, .mv 5 (.v 0)),
      (none, .mv 6 (.v 1)),
      (none, .call (some 7) 821 false [((.v 5), false), ((.v 6), false)]),
      (none, .bin 8 .geq (.v 7) (.c (.int .i64 0))),
      (none, .asg 4 (.v 8) .copy)])
    (.ret [4])))⟩
def F208 : PFunc :=
 ⟨[false, false], [.tmp 4],
  (.seq
   (.region [] [6] [0, 1] false [
     (none, .asg 4 (.c (.bool false)) .copy)])
   (.seq
    (.seq
     (.region [(11, 1, false)] [6] [0, 1, 14] false [
       (none, .mv 7 (.v 0)),
       (none, .call (some 8) 326 false [((.v 7), false), ((.c (.int .i64 1)), false), ((.c (.int .i64 16)), false)]),
       (none, .un 9 .not (.v 8)),
       (none, .mv 10 (.v 9)),
       (some (10, false), .mv 11 (.v 1)),
       (some (10, false), .len 12 false (.v 11)),
       (some (10, false), .bin 13 .gtr (.v 12) (.c (.int .i64 10))),
       (none, .pick 14 (.v 10) (.c (.bool true)) (.v 13))])
     (.cond (.v 14)
      (.seq
       (.region [] [6] [4] false [
         (none, .asg 4 (.c (.bool false)) .copy)])
       (.ret [4]))
      (.skip [0, 1])))
    (.seq
     (.seq
      (.region [(15, 1, false)] [6] [0, 1, 15, 16, 17] false [
        (none, .mv 15 (.v 1)),
        (none, .len 16 false (.v 15)),
        (none, .mv 17 (.c (.int .i64 0)))])
      (.block 0
       (.loop
        (.seq
         (.region [(15, 1, false)] [6] [0, 1, 15, 16, 17, 18] false [
           (none, .bin 18 .lss (.v 17) (.v 16))])
         (.seq
          (.cond (.v 18)
           (.skip [0, 1, 15, 16, 17])
           (.exit 0 []))
          (.seq
           (.block 1
            (.seq
             (.region [(20, 1, false), (15, 1, false)] [] [0, 1, 5, 6, 15, 16, 17] false [
               (none, .mv 19 (.v 17)),
               (none, .iadr 20 2 (.v 15) (.v 17)),
               (none, .load 21 true 2 (.v 20) (some .freeze)),
               (none, .new 6 (.agg [(.str []), (.sl false 1 [])])),
               (none, .asg 5 (.v 19) .copy),
               (none, .store 2 (.v 6) (.v 21) .move)])
             (.seq
              (.region [(40, 1, false), (34, 6, true), (33, 6, false), (28, 6, true), (27, 6, false), (22, 6, false), (15, 1, false)] [6] [0, 1, 15, 16, 17, 45] false [
                (none, .fadr 22 0 1 (.v 6)),
                (none, .load 23 false 1 (.v 22) none),
                (none, .call (some 24) 116 false [((.v 23), false)]),
                (none, .un 25 .not (.v 24)),
                (none, .mv 26 (.v 25)),
                (some (26, false), .fadr 27 1 1 (.v 6)),
                (some (26, false), .load 28 false 1 (.v 27) none),
                (some (26, false), .len 29 false (.v 28)),
                (some (26, false), .bin 30 .eql (.v 29) (.c (.int .i64 0))),
                (none, .pick 31 (.v 26) (.c (.bool true)) (.v 30)),
                (none, .mv 32 (.v 31)),
                (some (32, false), .fadr 33 1 1 (.v 6)),
                (some (32, false), .load 34 false 1 (.v 33) none),
                (some (32, false), .mv 35 (.v 0)),
                (some (32, false), .call (some 36) 276 false [((.v 34), false), ((.v 35), false)]),
                (some (32, false), .un 37 .not (.v 36)),
                (none, .pick 38 (.v 32) (.c (.bool true)) (.v 37)),
                (none, .mv 39 (.v 38)),
                (some (39, false), .mv 40 (.v 1)),
                (some (39, false), .mv 41 (.v 5)),
                (some (39, false), .slc 42 false 2 (.v 40) none (some (.v 41)) .freeze),
                (some (39, false), .mkfn 43 209 [6]),
                (some (39, false), .call (some 44) 799 false [((.v 42), false), ((.v 43), false)]),
                (none, .pick 45 (.v 39) (.c (.bool true)) (.v 44))])
              (.cond (.v 45)
               (.seq
                (.region [] [6] [4] false [
                  (none, .asg 4 (.c (.bool false)) .copy)])
                (.ret [4]))
               (.skip [0, 1, 15, 16, 17])))))
           (.region [(15, 1, false)] [6] [0, 1, 15, 16, 17] false [
             (none, .bin 46 .add (.v 17) (.c (.int .i64 1))),
             (none, .mv 17 (.v 46))])))))))
     (.seq
      (.region [] [6] [4] false [
        (none, .asg 4 (.c (.bool true)) .copy)])
      (.ret [4])))))⟩
def F256 : PFunc :=
 ⟨[false, false, false, false], [.tmp 8],
  (.seq
   (.region [] [] [0, 1, 2, 3] false [
     (none, .asg 8 (.c (.int .i64 0)) .copy)])
   (.seq
    (.block 0
     (.seq
      (.region [(11, 1, false)] [] [0, 1, 2, 3, 9] false [
        (none, .mv 10 (.v 0)),
        (none, .mv 11 (.v 1)),
        (none, .call (some 12) 208 false [((.v 10), false), ((.v 11), false)]),
        (none, .un 13 .not (.v 12)),
        (none, .asg 9 (.v 13) .copy)])
      (.cond (.v 9)
       (.seq
        (.region [] [] [8] false [
          (none, .asg 8 (.c (.int .i64 1)) .copy)])
        (.ret [8]))
       (.seq
        (.region [(21, 3, false), (16, 1, false), (15, 2, false)] [] [14] false [
          (none, .mv 15 (.v 2)),
          (none, .mv 16 (.v 1)),
          (none, .len 17 false (.v 16)),
          (none, .call (some 18) 276 false [((.v 15), false), ((.v 17), false)]),
          (none, .un 19 .not (.v 18)),
          (none, .mv 20 (.v 19)),
          (some (20, false), .mv 21 (.v 3)),
          (some (20, false), .mv 22 (.v 0)),
          (some (20, false), .call (some 23) 276 false [((.v 21), false), ((.v 22), false)]),
          (some (20, false), .un 24 .not (.v 23)),
          (none, .pick 25 (.v 20) (.c (.bool true)) (.v 24)),
          (none, .asg 14 (.v 25) .copy)])
        (.cond (.v 14)
         (.seq
          (.region [] [] [8] false [
            (none, .asg 8 (.c (.int .i64 2)) .copy)])
          (.ret [8]))
         (.skip []))))))
    (.seq
     (.region [] [] [8] false [
       (none, .asg 8 (.c (.int .i64 0)) .copy)])
     (.ret [8]))))⟩
def F273 : PFunc :=
 ⟨[false], [.tmp 2],
  (.seq
   (.region [] [] [0] false [
     (none, .asg 2 (.c (.sl true 1 [])) .copy)])
   (.seq
    (.region [] [] [0, 3] false [
      (none, .mksl 5 1 (.int .i64 0) 0 []),
      (none, .asg 3 (.v 5) .move)])
    (.seq
     (.seq
      (.region [] [] [0, 3, 4] false [
        (none, .asg 4 (.c (.int .i64 0)) .copy)])
      (.block 0
       (.loop
        (.seq
         (.seq
          (.region [] [] [0, 3, 4, 10] false [
            (none, .mv 6 (.v 0)),
            (none, .mv 7 (.v 4)),
            (none, .conv 8 .u64 (.v 7)),
            (none, .bin 9 .shr (.v 6) (.v 8)),
            (none, .bin 10 .gtr (.v 9) (.c (.int .i64 0)))])
          (.cond (.v 10)
           (.skip [0, 3, 4])
           (.exit 0 [3])))
         (.seq
          (.block 1
           (.seq
            (.region [] [] [0, 3, 4, 18] false [
              (none, .mv 13 (.v 0)),
              (none, .mv 14 (.v 4)),
              (none, .conv 15 .u64 (.v 14)),
              (none, .bin 16 .shr (.v 13) (.v 15)),
              (none, .bin 17 .and (.v 16) (.c (.int .i64 1))),
              (none, .bin 18 .eql (.v 17) (.c (.int .i64 1)))])
            (.cond (.v 18)
             (.region [(19, 3, false)] [] [0, 3, 4] false [
               (none, .mv 19 (.v 3)),
               (none, .mv 20 (.v 4)),
               (none, .mksl 21 1 (.int .i64 0) 1 [(0, (.v 20), .copy)]),
               (none, .app 22 1 (.v 19) (.v 21) .move),
               (none, .asg 3 (.v 22) .move)])
             (.skip [0, 3, 4]))))
          (.region [] [] [0, 3, 4] false [
            (none, .mv 11 (.v 4)),
            (none, .bin 12 .add (.v 11) (.c (.int .i64 1))),
            (none, .asg 4 (.v 12) .copy)]))))))
     (.seq
      (.region [(23, 3, false)] [] [2] false [
        (none, .mv 23 (.v 3)),
        (none, .asg 2 (.v 23) .move)])
      (.ret [2])))))⟩
def F308 : PFunc :=
 ⟨[false, false], [.tmp 4],
  (.seq
   (.region [] [] [0, 1] false [
     (none, .asg 4 (.c (.sl true 1 [])) .copy)])
   (.seq
    (.region [] [] [0, 1, 5] false [
      (none, .mksl 8 1 (.int .i64 0) 0 []),
      (none, .asg 5 (.v 8) .move)])
    (.seq
     (.seq
      (.region [(9, 1, false)] [] [0, 1, 5, 9, 10, 11] false [
        (none, .mv 9 (.v 1)),
        (none, .len 10 false (.v 9)),
        (none, .mv 11 (.c (.int .i64 0)))])
      (.block 0
       (.loop
        (.seq
         (.region [(9, 1, false)] [] [0, 1, 5, 9, 10, 11, 12] false [
           (none, .bin 12 .lss (.v 11) (.v 10))])
         (.seq
          (.cond (.v 12)
           (.skip [0, 1, 5, 9, 10, 11])
           (.exit 0 [5]))
          (.seq
           (.block 1
            (.seq
             (.region [(13, 1, false), (9, 1, false)] [] [0, 1, 5, 7, 9, 10, 11] false [
               (none, .iadr 13 1 (.v 9) (.v 11)),
               (none, .load 14 false 1 (.v 13) none),
               (none, .asg 7 (.v 14) .copy)])
             (.region [(20, 0, true), (19, 0, false), (18, 0, false), (16, 0, false), (15, 5, false), (9, 1, false)] [] [0, 1, 5, 9, 10, 11] false [
               (none, .mv 15 (.v 5)),
               (none, .mv 16 (.v 0)),
               (none, .mv 17 (.v 7)),
               (none, .iadr 18 2 (.v 16) (.v 17)),
               (none, .fadr 19 1 1 (.v 18)),
               (none, .load 20 false 1 (.v 19) none),
               (none, .app 21 1 (.v 15) (.v 20) .freeze),
               (none, .asg 5 (.v 21) .move)])))
           (.region [(9, 1, false)] [] [0, 1, 5, 9, 10, 11] false [
             (none, .bin 22 .add (.v 11) (.c (.int .i64 1))),
             (none, .mv 11 (.v 22))])))))))
     (.seq
      (.region [(23, 5, false)] [] [5] false [
        (none, .mv 23 (.v 5)),
        (none, .call (some 24) 836 false [((.v 23), true)])])
      (.seq
       (.region [(25, 5, false)] [] [4] false [
         (none, .mv 25 (.v 5)),
         (none, .call (some 26) 791 false [((.v 25), true)]),
         (none, .asg 4 (.v 26) .move)])
       (.ret [4]))))))⟩
def F811 : PFunc :=
 ⟨[false, false], [.tmp 4],
  (.seq
   (.region [] [] [0, 1] false [
     (none, .asg 4 (.c (.bool false)) .copy)])
   (.seq
    (.seq
     (.region [(8, 1, false), (6, 0, false)] [] [0, 1, 10] false [
       (none, .mv 6 (.v 0)),
       (none, .len 7 false (.v 6)),
       (none, .mv 8 (.v 1)),
       (none, .len 9 false (.v 8)),
       (none, .bin 10 .neq (.v 7) (.v 9))])
     (.cond (.v 10)
      (.seq
       (.region [] [] [4] false [
         (none, .asg 4 (.c (.bool false)) .copy)])
       (.ret [4]))
      (.skip [0, 1])))
    (.seq
     (.seq
      (.region [(11, 0, false)] [] [0, 1, 12, 13] false [
        (none, .mv 11 (.v 0)),
        (none, .len 12 false (.v 11)),
        (none, .mv 13 (.c (.int .i64 0)))])
      (.block 0
       (.loop
        (.seq
         (.region [] [] [0, 1, 12, 13, 14] false [
           (none, .bin 14 .lss (.v 13) (.v 12))])
         (.seq
          (.cond (.v 14)
           (.skip [0, 1, 12, 13])
           (.exit 0 []))
          (.seq
           (.block 1
            (.seq
             (.region [] [] [0, 1, 5, 12, 13] false [
               (none, .mv 15 (.v 13)),
               (none, .asg 5 (.v 15) .copy)])
             (.seq
              (.region [(22, 1, false), (20, 1, false), (18, 0, false), (16, 0, false)] [] [0, 1, 12, 13, 24] true [
                (none, .mv 16 (.v 0)),
                (none, .mv 17 (.v 5)),
                (none, .iadr 18 1 (.v 16) (.v 17)),
                (none, .load 19 false 1 (.v 18) none),
                (none, .mv 20 (.v 1)),
                (none, .mv 21 (.v 5)),
                (none, .iadr 22 1 (.v 20) (.v 21)),
                (none, .load 23 false 1 (.v 22) none),
                (none, .bin 24 .neq (.v 19) (.v 23))])
              (.cond (.v 24)
               (.seq
                (.region [] [] [4] false [
                  (none, .asg 4 (.c (.bool false)) .copy)])
                (.ret [4]))
               (.skip [0, 1, 12, 13])))))
           (.region [] [] [0, 1, 12, 13] false [
             (none, .bin 25 .add (.v 13) (.c (.int .i64 1))),
             (none, .mv 13 (.v 25))])))))))
     (.seq
      (.region [] [] [4] false [
        (none, .asg 4 (.c (.bool true)) .copy)])
      (.ret [4])))))⟩
def F266 : PFunc :=
 ⟨[false, false], [.tmp 4],
  (.seq
   (.region [] [] [0, 1] false [
     (none, .asg 4 (.c (.sl true 1 [])) .copy)])
   (.seq
    (.region [] [] [0, 1, 5] false [
      (none, .mksl 8 1 (.sl true 1 []) 0 []),
      (none, .asg 5 (.v 8) .move)])
    (.seq
     (.seq
      (.region [(9, 0, false)] [] [0, 1, 5, 12, 13] false [
        (none, .mv 9 (.v 0)),
        (none, .len 10 false (.v 9)),
        (none, .conv 11 .u64 (.v 10)),
        (none, .bin 12 .shl (.c (.int .i64 1)) (.v 11)),
        (none, .mv 13 (.c (.int .i64 0)))])
      (.block 0
       (.loop
        (.seq
         (.region [] [] [0, 1, 5, 12, 13, 14] false [
           (none, .bin 14 .lss (.v 13) (.v 12))])
         (.seq
          (.cond (.v 14)
           (.skip [0, 1, 5, 12, 13])
           (.exit 0 [5]))
          (.seq
           (.block 1
            (.seq
             (.region [] [] [0, 1, 5, 6, 12, 13] false [
               (none, .mv 15 (.v 13)),
               (none, .asg 6 (.v 15) .copy)])
             (.seq
              (.region [] [] [0, 1, 5, 7, 12, 13] false [
                (none, .mv 16 (.v 6)),
                (none, .call (some 17) 273 false [((.v 16), false)]),
                (none, .asg 7 (.v 17) .move)])
              (.seq
               (.region [(21, 1, false), (19, 7, false), (18, 0, false)] [] [0, 1, 5, 7, 12, 13, 22] false [
                 (none, .mv 18 (.v 0)),
                 (none, .mv 19 (.v 7)),
                 (none, .call (some 20) 308 false [((.v 18), false), ((.v 19), false)]),
                 (none, .mv 21 (.v 1)),
                 (none, .call (some 22) 811 false [((.v 20), false), ((.v 21), false)])])
               (.cond (.v 22)
                (.region [(24, 7, false), (23, 5, false)] [] [0, 1, 5, 12, 13] false [
                  (none, .mv 23 (.v 5)),
                  (none, .mv 24 (.v 7)),
                  (none, .mksl 25 1 (.sl true 1 []) 1 [(0, (.v 24), .move)]),
                  (none, .app 26 1 (.v 23) (.v 25) .move),
                  (none, .asg 5 (.v 26) .move)])
                (.skip [0, 1, 5, 12, 13]))))))
           (.region [] [] [0, 1, 5, 12, 13] false [
             (none, .bin 27 .add (.v 13) (.c (.int .i64 1))),
             (none, .mv 13 (.v 27))])))))))
     (.seq
      (.region [(28, 5, false)] [] [4] false [
        (none, .mv 28 (.v 5)),
        (none, .asg 4 (.v 28) .move)])
      (.ret [4])))))⟩
def F31 : PFunc :=
 ⟨[false], [.tmp 2],
  (.seq
   (.region [] [] [0] false [
     (none, .asg 2 (.c (.bool false)) .copy)])
   (.seq
    (.region [] [] [2] false [
      (none, .mv 3 (.v 0)),
      (none, .mv 4 (.v 0)),
      (none, .bin 5 .neq (.v 3) (.v 4)),
      (none, .asg 2 (.v 5) .copy)])
    (.ret [2])))⟩
def F27 : PFunc :=
 ⟨[false, false], [.tmp 4],
  (.seq
   (.region [] [] [0, 1] false [
     (none, .asg 4 (.c (.int .i64 0)) .copy)])
   (.seq
    (.region [] [] [0, 1, 5] false [
      (none, .mv 7 (.v 0)),
      (none, .call (some 8) 31 false [((.v 7), false)]),
      (none, .asg 5 (.v 8) .copy)])
    (.seq
     (.region [] [] [0, 1, 5, 6] false [
       (none, .mv 9 (.v 1)),
       (none, .call (some 10) 31 false [((.v 9), false)]),
       (none, .asg 6 (.v 10) .copy)])
     (.seq
      (.seq
       (.region [] [] [0, 1, 6, 11] false [
         (none, .mv 11 (.v 5))])
       (.cond (.v 11)
        (.seq
         (.seq
          (.region [] [] [12] false [
            (none, .mv 12 (.v 6))])
          (.cond (.v 12)
           (.seq
            (.region [] [] [4] false [
              (none, .asg 4 (.c (.int .i64 0)) .copy)])
            (.ret [4]))
           (.skip [])))
         (.seq
          (.region [] [] [4] false [
            (none, .asg 4 (.c (.int .i64 (-1))) .copy)])
          (.ret [4])))
        (.skip [0, 1, 6])))
      (.seq
       (.seq
        (.region [] [] [0, 1, 13] false [
          (none, .mv 13 (.v 6))])
        (.cond (.v 13)
         (.seq
          (.region [] [] [4] false [
            (none, .asg 4 (.c (.int .i64 1)) .copy)])
          (.ret [4]))
         (.skip [0, 1])))
       (.seq
        (.seq
         (.region [] [] [0, 1, 16] false [
           (none, .mv 14 (.v 0)),
           (none, .mv 15 (.v 1)),
           (none, .bin 16 .lss (.v 14) (.v 15))])
         (.cond (.v 16)
          (.seq
           (.region [] [] [4] false [
             (none, .asg 4 (.c (.int .i64 (-1))) .copy)])
           (.ret [4]))
          (.skip [0, 1])))
        (.seq
         (.seq
          (.region [] [] [19] false [
            (none, .mv 17 (.v 0)),
            (none, .mv 18 (.v 1)),
            (none, .bin 19 .gtr (.v 17) (.v 18))])
          (.cond (.v 19)
           (.seq
            (.region [] [] [4] false [
              (none, .asg 4 (.c (.int .i64 1)) .copy)])
            (.ret [4]))
           (.skip [])))
         (.seq
          (.region [] [] [4] false [
            (none, .asg 4 (.c (.int .i64 0)) .copy)])
          (.ret [4])))))))))⟩
def F792 : PFunc :=
 ⟨[false, false], [.tmp 4],
  (.seq
   (.region [] [] [0, 1] false [
     (none, .asg 4 (.c (.int .i64 0)) .copy)])
   (.seq
    (.seq
     (.region [(9, 0, false)] [] [0, 1, 9, 10, 11] false [
       (none, .mv 9 (.v 0)),
       (none, .len 10 false (.v 9)),
       (none, .mv 11 (.c (.int .i64 0)))])
     (.block 0
      (.loop
       (.seq
        (.region [(9, 0, false)] [] [0, 1, 9, 10, 11, 12] false [
          (none, .bin 12 .lss (.v 11) (.v 10))])
        (.seq
         (.cond (.v 12)
          (.skip [0, 1, 9, 10, 11])
          (.exit 0 [0, 1]))
         (.seq
          (.block 1
           (.seq
            (.region [(14, 0, false), (9, 0, false)] [] [0, 1, 5, 6, 9, 10, 11] false [
              (none, .mv 13 (.v 11)),
              (none, .iadr 14 1 (.v 9) (.v 11)),
              (none, .load 15 false 1 (.v 14) none),
              (none, .asg 5 (.v 13) .copy),
              (none, .asg 6 (.v 15) .copy)])
            (.seq
             (.seq
              (.region [(17, 1, false), (9, 0, false)] [] [0, 1, 5, 6, 9, 10, 11, 19] false [
                (none, .mv 16 (.v 5)),
                (none, .mv 17 (.v 1)),
                (none, .len 18 false (.v 17)),
                (none, .bin 19 .geq (.v 16) (.v 18))])
              (.cond (.v 19)
               (.seq
                (.region [] [] [4] false [
                  (none, .asg 4 (.c (.int .i64 1)) .copy)])
                (.ret [4]))
               (.skip [0, 1, 5, 6, 9, 10, 11])))
             (.seq
              (.region [(22, 1, false), (20, 1, false), (9, 0, false)] [] [0, 1, 6, 7, 9, 10, 11] false [
                (none, .mv 20 (.v 1)),
                (none, .mv 21 (.v 5)),
                (none, .iadr 22 1 (.v 20) (.v 21)),
                (none, .load 23 false 1 (.v 22) none),
                (none, .asg 7 (.v 23) .copy)])
              (.seq
               (.region [(9, 0, false)] [] [0, 1, 8, 9, 10, 11] false [
                 (none, .mv 24 (.v 6)),
                 (none, .mv 25 (.v 7)),
                 (none, .call (some 26) 27 false [((.v 24), false), ((.v 25), false)]),
                 (none, .asg 8 (.v 26) .copy)])
               (.seq
                (.region [(9, 0, false)] [] [0, 1, 8, 9, 10, 11, 28] false [
                  (none, .mv 27 (.v 8)),
                  (none, .bin 28 .neq (.v 27) (.c (.int .i64 0)))])
                (.cond (.v 28)
                 (.seq
                  (.region [] [] [4] false [
                    (none, .mv 29 (.v 8)),
                    (none, .asg 4 (.v 29) .copy)])
                  (.ret [4]))
                 (.skip [0, 1, 9, 10, 11]))))))))
          (.region [(9, 0, false)] [] [0, 1, 9, 10, 11] false [
            (none, .bin 30 .add (.v 11) (.c (.int .i64 1))),
            (none, .mv 11 (.v 30))])))))))
    (.seq
     (.seq
      (.region [(33, 1, false), (31, 0, false)] [] [35] false [
        (none, .mv 31 (.v 0)),
        (none, .len 32 false (.v 31)),
        (none, .mv 33 (.v 1)),
        (none, .len 34 false (.v 33)),
        (none, .bin 35 .lss (.v 32) (.v 34))])
      (.cond (.v 35)
       (.seq
        (.region [] [] [4] false [
          (none, .asg 4 (.c (.int .i64 (-1))) .copy)])
        (.ret [4]))
       (.skip [])))
     (.seq
      (.region [] [] [4] false [
        (none, .asg 4 (.c (.int .i64 0)) .copy)])
      (.ret [4])))))⟩
def F85 : PFunc :=
 ⟨[false, false, false], [.tmp 6, .tmp 7],
  (.seq
   (.region [] [] [0, 1, 2] false [
     (none, .asg 6 (.c (.sl true 1 [])) .copy),
     (none, .asg 7 (.c (.int .i64 0)) .copy)])
   (.seq
    (.seq
     (.region [(15, 2, false), (14, 1, false)] [] [1, 2, 8] false [
       (none, .mv 13 (.v 0)),
       (none, .mv 14 (.v 1)),
       (none, .mv 15 (.v 2)),
       (none, .call (some 16) 256 false [((.v 13), false), ((.v 14), false), ((.c (.sl false 1 [])), false), ((.v 15), false)]),
       (none, .asg 8 (.v 16) .copy)])
     (.seq
      (.region [] [] [1, 2, 8, 18] false [
        (none, .mv 17 (.v 8)),
        (none, .bin 18 .neq (.v 17) (.c (.int .i64 0)))])
      (.cond (.v 18)
       (.seq
        (.region [] [] [6, 7] false [
          (none, .mv 19 (.v 8)),
          (none, .asg 6 (.c (.sl true 1 [])) .copy),
          (none, .asg 7 (.v 19) .copy)])
        (.ret [6, 7]))
       (.skip [1, 2]))))
    (.seq
     (.region [(21, 2, false), (20, 1, false)] [] [9] false [
       (none, .mv 20 (.v 1)),
       (none, .mv 21 (.v 2)),
       (none, .call (some 22) 266 false [((.v 20), false), ((.v 21), false)]),
       (none, .asg 9 (.v 22) .move)])
     (.seq
      (.seq
       (.region [(23, 9, false)] [] [9, 25] false [
         (none, .mv 23 (.v 9)),
         (none, .len 24 false (.v 23)),
         (none, .bin 25 .eql (.v 24) (.c (.int .i64 0)))])
       (.cond (.v 25)
        (.seq
         (.region [] [] [6, 7] false [
           (none, .asg 6 (.c (.sl true 1 [])) .copy),
           (none, .asg 7 (.c (.int .i64 3)) .copy)])
         (.ret [6, 7]))
        (.skip [9])))
      (.seq
       (.region [(28, 9, true), (27, 9, false), (26, 9, false), (10, 9, true)] [] [9, 10] false [
         (none, .mv 26 (.v 9)),
         (none, .iadr 27 1 (.v 26) (.c (.int .i64 0))),
         (none, .load 28 false 1 (.v 27) none),
         (none, .mv 10 (.v 28))])
       (.seq
        (.seq
         (.region [(29, 9, false), (10, 9, true)] [] [9, 10, 29, 30, 31] false [
           (none, .mv 29 (.v 9)),
           (none, .len 30 false (.v 29)),
           (none, .mv 31 (.c (.int .i64 0)))])
         (.block 0
          (.loop
           (.seq
            (.region [(29, 9, false), (10, 9, true)] [] [9, 10, 29, 30, 31, 32] false [
              (none, .bin 32 .lss (.v 31) (.v 30))])
            (.seq
             (.cond (.v 32)
              (.skip [9, 10, 29, 30, 31])
              (.exit 0 [9, 10]))
             (.seq
              (.block 1
               (.seq
                (.region [(34, 9, true), (33, 9, false), (29, 9, false), (12, 9, true), (10, 9, true)] [] [9, 10, 12, 29, 30, 31] false [
                  (none, .iadr 33 1 (.v 29) (.v 31)),
                  (none, .load 34 false 1 (.v 33) none),
                  (none, .mv 12 (.v 34))])
                (.seq
                 (.region [(48, 9, true), (47, 9, true), (43, 9, true), (41, 9, true), (37, 9, true), (35, 9, true), (29, 9, false), (12, 9, true), (10, 9, true)] [] [9, 10, 12, 29, 30, 31, 52] false [
                   (none, .mv 35 (.v 12)),
                   (none, .len 36 false (.v 35)),
                   (none, .mv 37 (.v 10)),
                   (none, .len 38 false (.v 37)),
                   (none, .bin 39 .lss (.v 36) (.v 38)),
                   (none, .mv 40 (.v 39)),
                   (some (40, false), .mv 41 (.v 12)),
                   (some (40, false), .len 42 false (.v 41)),
                   (some (40, false), .mv 43 (.v 10)),
                   (some (40, false), .len 44 false (.v 43)),
                   (some (40, false), .bin 45 .eql (.v 42) (.v 44)),
                   (some (40, false), .mv 46 (.v 45)),
                   (some (46, true), .mv 47 (.v 12)),
                   (some (46, true), .mv 48 (.v 10)),
                   (some (46, true), .call (some 49) 792 false [((.v 47), false), ((.v 48), false)]),
                   (some (46, true), .bin 50 .lss (.v 49) (.c (.int .i64 0))),
                   (some (40, false), .pick 51 (.v 46) (.v 50) (.c (.bool false))),
                   (none, .pick 52 (.v 40) (.c (.bool true)) (.v 51))])
                 (.cond (.v 52)
                  (.region [(53, 9, true), (29, 9, false), (12, 9, true), (10, 9, true)] [] [9, 10, 29, 30, 31] false [
                    (none, .mv 53 (.v 12)),
                    (none, .mv 10 (.v 53))])
                  (.skip [9, 10, 29, 30, 31])))))
              (.region [(29, 9, false), (10, 9, true)] [] [9, 10, 29, 30, 31] false [
                (none, .bin 54 .add (.v 31) (.c (.int .i64 1))),
                (none, .mv 31 (.v 54))])))))))
        (.seq
         (.region [(55, 9, true), (10, 9, true)] [] [6, 7] false [
           (none, .mv 55 (.v 10)),
           (none, .asg 6 (.v 55) .move),
           (none, .asg 7 (.c (.int .i64 0)) .copy)])
         (.ret [6, 7]))))))))⟩
def F393 : PFunc :=
 ⟨[false, false], [.tmp 4],
  (.seq
   (.region [] [] [0, 1] false [
     (none, .asg 4 (.c (.bool false)) .copy)])
   (.seq
    (.seq
     (.region [(8, 1, false), (6, 0, false)] [] [0, 1, 10] false [
       (none, .mv 6 (.v 0)),
       (none, .len 7 false (.v 6)),
       (none, .mv 8 (.v 1)),
       (none, .len 9 false (.v 8)),
       (none, .bin 10 .neq (.v 7) (.v 9))])
     (.cond (.v 10)
      (.seq
       (.region [] [] [4] false [
         (none, .asg 4 (.c (.bool false)) .copy)])
       (.ret [4]))
      (.skip [0, 1])))
    (.seq
     (.seq
      (.region [] [] [0, 1, 5] false [
        (none, .asg 5 (.c (.int .i64 0)) .copy)])
      (.block 0
       (.loop
        (.seq
         (.seq
          (.region [(12, 0, false)] [] [0, 1, 5, 14] false [
            (none, .mv 11 (.v 5)),
            (none, .mv 12 (.v 0)),
            (none, .len 13 false (.v 12)),
            (none, .bin 14 .lss (.v 11) (.v 13))])
          (.cond (.v 14)
           (.skip [0, 1, 5])
           (.exit 0 [])))
         (.seq
          (.block 1
           (.seq
            (.region [(23, 1, false), (21, 1, false), (19, 0, false), (17, 0, false)] [] [0, 1, 5, 25] true [
              (none, .mv 17 (.v 0)),
              (none, .mv 18 (.v 5)),
              (none, .iadr 19 1 (.v 17) (.v 18)),
              (none, .load 20 false 1 (.v 19) none),
              (none, .mv 21 (.v 1)),
              (none, .mv 22 (.v 5)),
              (none, .iadr 23 1 (.v 21) (.v 22)),
              (none, .load 24 false 1 (.v 23) none),
              (none, .bin 25 .neq (.v 20) (.v 24))])
            (.cond (.v 25)
             (.seq
              (.region [] [] [4] false [
                (none, .asg 4 (.c (.bool false)) .copy)])
              (.ret [4]))
             (.skip [0, 1, 5]))))
          (.region [] [] [0, 1, 5] false [
            (none, .mv 15 (.v 5)),
            (none, .bin 16 .add (.v 15) (.c (.int .i64 1))),
            (none, .asg 5 (.v 16) .copy)]))))))
     (.seq
      (.region [] [] [4] false [
        (none, .asg 4 (.c (.bool true)) .copy)])
      (.ret [4])))))⟩
def F391 : PFunc :=
 ⟨[false, false], [.tmp 4],
  (.seq
   (.region [] [] [2, 3] false [
     (none, .box 2 (.v 0) .move),
     (none, .box 3 (.v 1) .move),
     (none, .asg 4 (.c (.bool false)) .copy)])
   (.seq
    (.seq
     (.region [(7, 3, false), (5, 2, false)] [] [2, 3, 9] false [
       (none, .fadr 5 0 1 (.v 2)),
       (none, .load 6 false 1 (.v 5) none),
       (none, .fadr 7 0 1 (.v 3)),
       (none, .load 8 false 1 (.v 7) none),
       (none, .bin 9 .neq (.v 6) (.v 8))])
     (.cond (.v 9)
      (.seq
       (.region [] [] [4] false [
         (none, .asg 4 (.c (.bool false)) .copy)])
       (.ret [4]))
      (.skip [2, 3])))
    (.seq
     (.seq
      (.region [(13, 3, true), (12, 3, false), (11, 2, true), (10, 2, false)] [] [15] false [
        (none, .fadr 10 1 1 (.v 2)),
        (none, .load 11 false 1 (.v 10) none),
        (none, .fadr 12 1 1 (.v 3)),
        (none, .load 13 false 1 (.v 12) none),
        (none, .call (some 14) 393 false [((.v 11), false), ((.v 13), false)]),
        (none, .un 15 .not (.v 14))])
      (.cond (.v 15)
       (.seq
        (.region [] [] [4] false [
          (none, .asg 4 (.c (.bool false)) .copy)])
        (.ret [4]))
       (.skip [])))
     (.seq
      (.region [] [] [4] false [
        (none, .asg 4 (.c (.bool true)) .copy)])
      (.ret [4])))))⟩
def F392 : PFunc :=
 ⟨[false, false], [.tmp 4],
  (.seq
   (.region [] [] [0, 1] false [
     (none, .asg 4 (.c (.bool false)) .copy)])
   (.seq
    (.seq
     (.region [(8, 1, false), (6, 0, false)] [] [0, 1, 10] false [
       (none, .mv 6 (.v 0)),
       (none, .len 7 false (.v 6)),
       (none, .mv 8 (.v 1)),
       (none, .len 9 false (.v 8)),
       (none, .bin 10 .neq (.v 7) (.v 9))])
     (.cond (.v 10)
      (.seq
       (.region [] [] [4] false [
         (none, .asg 4 (.c (.bool false)) .copy)])
       (.ret [4]))
      (.skip [0, 1])))
    (.seq
     (.seq
      (.region [] [] [0, 1, 5] false [
        (none, .asg 5 (.c (.int .i64 0)) .copy)])
      (.block 0
       (.loop
        (.seq
         (.seq
          (.region [(12, 0, false)] [] [0, 1, 5, 14] false [
            (none, .mv 11 (.v 5)),
            (none, .mv 12 (.v 0)),
            (none, .len 13 false (.v 12)),
            (none, .bin 14 .lss (.v 11) (.v 13))])
          (.cond (.v 14)
           (.skip [0, 1, 5])
           (.exit 0 [])))
         (.seq
          (.block 1
           (.seq
            (.region [(23, 1, false), (21, 1, false), (19, 0, false), (17, 0, false)] [] [0, 1, 5, 26] true [
              (none, .mv 17 (.v 0)),
              (none, .mv 18 (.v 5)),
              (none, .iadr 19 2 (.v 17) (.v 18)),
              (none, .load 20 true 2 (.v 19) none),
              (none, .mv 21 (.v 1)),
              (none, .mv 22 (.v 5)),
              (none, .iadr 23 2 (.v 21) (.v 22)),
              (none, .load 24 true 2 (.v 23) none),
              (none, .call (some 25) 391 false [((.v 20), false), ((.v 24), false)]),
              (none, .un 26 .not (.v 25))])
            (.cond (.v 26)
             (.seq
              (.region [] [] [4] false [
                (none, .asg 4 (.c (.bool false)) .copy)])
              (.ret [4]))
             (.skip [0, 1, 5]))))
          (.region [] [] [0, 1, 5] false [
            (none, .mv 15 (.v 5)),
            (none, .bin 16 .add (.v 15) (.c (.int .i64 1))),
            (none, .asg 5 (.v 16) .copy)]))))))
     (.seq
      (.region [] [] [4] false [
        (none, .asg 4 (.c (.bool true)) .copy)])
      (.ret [4])))))⟩
def F405 : PFunc :=
 ⟨[false, false], [.tmp 4],
  (.seq
   (.region [] [] [0, 1] false [
     (none, .asg 4 (.c (.int .i64 0)) .copy)])
   (.seq
    (.seq
     (.region [] [] [0, 1, 5] false [
       (none, .asg 5 (.c (.int .i64 0)) .copy)])
     (.block 0
      (.loop
       (.seq
        (.seq
         (.region [(7, 0, false)] [] [0, 1, 5, 9] false [
           (none, .mv 6 (.v 5)),
           (none, .mv 7 (.v 0)),
           (none, .len 8 false (.v 7)),
           (none, .bin 9 .lss (.v 6) (.v 8))])
         (.cond (.v 9)
          (.skip [0, 1, 5])
          (.exit 0 [1])))
        (.seq
         (.block 1
          (.seq
           (.seq
            (.region [(14, 0, false), (12, 0, false)] [] [0, 1, 5, 17] false [
              (none, .mv 12 (.v 0)),
              (none, .mv 13 (.v 5)),
              (none, .iadr 14 1 (.v 12) (.v 13)),
              (none, .load 15 false 1 (.v 14) none),
              (none, .mv 16 (.v 1)),
              (none, .bin 17 .neq (.v 15) (.v 16))])
            (.cond (.v 17)
             (.seq
              (.region [] [] [4] false [
                (none, .asg 4 (.c (.int .i64 (-1))) .copy)])
              (.ret [4]))
             (.skip [0, 1, 5])))
           (.region [] [] [0, 1, 5] false [
             (none, .mv 18 (.v 1)),
             (none, .bin 19 .add (.v 18) (.c (.int .i64 1))),
             (none, .asg 1 (.v 19) .copy)])))
         (.region [] [] [0, 1, 5] false [
           (none, .mv 10 (.v 5)),
           (none, .bin 11 .add (.v 10) (.c (.int .i64 1))),
           (none, .asg 5 (.v 11) .copy)]))))))
    (.seq
     (.region [] [] [4] false [
       (none, .mv 20 (.v 1)),
       (none, .asg 4 (.v 20) .copy)])
     (.ret [4]))))⟩
def F408 : PFunc :=
 ⟨[true, false], [.tmp 4],
  (.seq
   (.region [] [] [0, 1] false [
     (none, .asg 4 (.c (.int .i64 0)) .copy)])
   (.seq
    (.seq
     (.region [] [] [0, 1, 5] false [
       (none, .asg 5 (.c (.int .i64 0)) .copy)])
     (.block 0
      (.loop
       (.seq
        (.seq
         (.region [(7, 0, false)] [] [0, 1, 5, 9] false [
           (none, .mv 6 (.v 5)),
           (none, .mv 7 (.v 0)),
           (none, .len 8 false (.v 7)),
           (none, .bin 9 .lss (.v 6) (.v 8))])
         (.cond (.v 9)
          (.skip [0, 1, 5])
          (.exit 0 [0, 1])))
        (.seq
         (.block 1
          (.seq
           (.region [(15, 0, false), (12, 0, false)] [] [0, 1, 5] false [
             (none, .mv 12 (.v 0)),
             (none, .mv 13 (.v 5)),
             (none, .mv 14 (.v 1)),
             (none, .iadr 15 1 (.v 12) (.v 13)),
             (none, .store 1 (.v 15) (.v 14) .copy)])
           (.region [] [] [0, 1, 5] false [
             (none, .mv 16 (.v 1)),
             (none, .bin 17 .add (.v 16) (.c (.int .i64 1))),
             (none, .asg 1 (.v 17) .copy)])))
         (.region [] [] [0, 1, 5] false [
           (none, .mv 10 (.v 5)),
           (none, .bin 11 .add (.v 10) (.c (.int .i64 1))),
           (none, .asg 5 (.v 11) .copy)]))))))
    (.seq
     (.region [] [] [0, 4] false [
       (none, .mv 18 (.v 1)),
       (none, .asg 4 (.v 18) .copy)])
     (.ret [0, 4]))))⟩
def F410 : PFunc :=
 ⟨[false], [.tmp 2],
  (.seq
   (.region [] [] [0] false [
     (none, .asg 2 (.c (.str [])) .copy)])
   (.seq
    (.seq
     (.region [] [] [0, 5] false [
       (none, .mv 4 (.v 0)),
       (none, .bin 5 .leq (.v 4) (.c (.int .i64 0)))])
     (.cond (.v 5)
      (.seq
       (.region [] [] [2] false [
         (none, .asg 2 (.c (.str [109, 48])) .copy)])
       (.ret [2]))
      (.skip [0])))
    (.seq
     (.region [] [] [0, 3] false [
       (none, .asg 3 (.c (.str [])) .copy)])
     (.seq
      (.block 0
       (.loop
        (.seq
         (.seq
          (.region [] [] [0, 3, 7] false [
            (none, .mv 6 (.v 0)),
            (none, .bin 7 .gtr (.v 6) (.c (.int .i64 0)))])
          (.cond (.v 7)
           (.skip [0, 3])
           (.exit 0 [3])))
         (.block 1
          (.seq
           (.region [] [] [0, 3] false [
             (none, .mv 8 (.v 0)),
             (none, .bin 9 .rem (.v 8) (.c (.int .i64 10))),
             (none, .bin 10 .add (.c (.int .i64 48)) (.v 9)),
             (none, .conv 11 .u8 (.v 10)),
             (none, .mksl 12 1 (.int .u8 0) 1 [(0, (.v 11), .copy)]),
             (none, .b2s 13 (.v 12)),
             (none, .mv 14 (.v 3)),
             (none, .bin 15 .add (.v 13) (.v 14)),
             (none, .asg 3 (.v 15) .copy)])
           (.region [] [] [0, 3] false [
             (none, .mv 16 (.v 0)),
             (none, .bin 17 .quo (.v 16) (.c (.int .i64 10))),
             (none, .asg 0 (.v 17) .copy)]))))))
      (.seq
       (.region [] [] [2] false [
         (none, .mv 18 (.v 3)),
         (none, .bin 19 .add (.c (.str [109])) (.v 18)),
         (none, .asg 2 (.v 19) .copy)])
       (.ret [2]))))))⟩
def F407 : PFunc :=
 ⟨[true, false], [.tmp 4],
  (.seq
   (.region [] [] [0, 1] false [
     (none, .asg 4 (.c (.int .i64 0)) .copy)])
   (.seq
    (.seq
     (.region [] [] [0, 1, 5] false [
       (none, .asg 5 (.c (.int .i64 0)) .copy)])
     (.block 0
      (.loop
       (.seq
        (.seq
         (.region [(7, 0, false)] [] [0, 1, 5, 9] false [
           (none, .mv 6 (.v 5)),
           (none, .mv 7 (.v 0)),
           (none, .len 8 false (.v 7)),
           (none, .bin 9 .lss (.v 6) (.v 8))])
         (.cond (.v 9)
          (.skip [0, 1, 5])
          (.exit 0 [0, 1])))
        (.seq
         (.block 1
          (.seq
           (.region [(17, 0, false), (16, 0, false), (12, 0, false)] [] [0, 1, 5] false [
             (none, .mv 12 (.v 0)),
             (none, .mv 13 (.v 5)),
             (none, .mv 14 (.v 1)),
             (none, .call (some 15) 410 false [((.v 14), false)]),
             (none, .iadr 16 2 (.v 12) (.v 13)),
             (none, .fadr 17 0 1 (.v 16)),
             (none, .store 1 (.v 17) (.v 15) .copy)])
           (.seq
            (.region [] [] [0, 1, 5] false [
              (none, .mv 18 (.v 1)),
              (none, .bin 19 .add (.v 18) (.c (.int .i64 1))),
              (none, .asg 1 (.v 19) .copy)])
            (.region [(24, 0, true), (23, 0, false), (22, 0, false), (20, 0, false)] [] [0, 1, 5] false [
              (none, .mv 20 (.v 0)),
              (none, .mv 21 (.v 5)),
              (none, .iadr 22 2 (.v 20) (.v 21)),
              (none, .fadr 23 1 1 (.v 22)),
              (none, .load 24 false 1 (.v 23) none),
              (none, .mv 25 (.v 1)),
              (none, .call (some 26) 408 false [((.v 24), true), ((.v 25), false)]),
              (none, .asg 1 (.v 26) .copy)]))))
         (.region [] [] [0, 1, 5] false [
           (none, .mv 10 (.v 5)),
           (none, .bin 11 .add (.v 10) (.c (.int .i64 1))),
           (none, .asg 5 (.v 11) .copy)]))))))
    (.seq
     (.region [] [] [0, 4] false [
       (none, .mv 27 (.v 1)),
       (none, .asg 4 (.v 27) .copy)])
     (.ret [0, 4]))))⟩
def F414 : PFunc :=
 ⟨[false, false], [.tmp 4],
  (.seq
   (.region [] [] [0, 1] false [
     (none, .asg 4 (.c (.int .i64 0)) .copy)])
   (.seq
    (.region [(6, 0, false)] [] [1] false [
      (none, .mv 5 (.v 1)),
      (none, .mv 6 (.v 0)),
      (none, .len 7 false (.v 6)),
      (none, .bin 8 .sub (.v 5) (.v 7)),
      (none, .asg 1 (.v 8) .copy)])
    (.seq
     (.seq
      (.region [] [] [1, 10] false [
        (none, .mv 9 (.v 1)),
        (none, .bin 10 .lss (.v 9) (.c (.int .i64 0)))])
      (.cond (.v 10)
       (.seq
        (.region [] [] [4] false [
          (none, .asg 4 (.c (.int .i64 (-1))) .copy)])
        (.ret [4]))
       (.skip [1])))
     (.seq
      (.region [] [] [4] false [
        (none, .mv 11 (.v 1)),
        (none, .asg 4 (.v 11) .copy)])
      (.ret [4])))))⟩
def F412 : PFunc :=
 ⟨[false, false], [.tmp 4],
  (.seq
   (.region [] [] [1, 2] false [
     (none, .box 2 (.v 0) .move),
     (none, .asg 4 (.c (.int .i64 0)) .copy)])
   (.seq
    (.region [(6, 2, false)] [] [1, 2] false [
      (none, .mv 5 (.v 1)),
      (none, .fadr 6 0 1 (.v 2)),
      (none, .load 7 false 1 (.v 6) none),
      (none, .len 8 true (.v 7)),
      (none, .bin 9 .sub (.v 5) (.v 8)),
      (none, .asg 1 (.v 9) .copy)])
    (.seq
     (.seq
      (.region [] [] [1, 2, 11] false [
        (none, .mv 10 (.v 1)),
        (none, .bin 11 .lss (.v 10) (.c (.int .i64 0)))])
      (.cond (.v 11)
       (.seq
        (.region [] [] [4] false [
          (none, .asg 4 (.c (.int .i64 (-1))) .copy)])
        (.ret [4]))
       (.skip [1, 2])))
     (.seq
      (.region [(13, 2, true), (12, 2, false)] [] [1] false [
        (none, .fadr 12 1 1 (.v 2)),
        (none, .load 13 false 1 (.v 12) none),
        (none, .mv 14 (.v 1)),
        (none, .call (some 15) 414 false [((.v 13), false), ((.v 14), false)]),
        (none, .asg 1 (.v 15) .copy)])
      (.seq
       (.seq
        (.region [] [] [1, 17] false [
          (none, .mv 16 (.v 1)),
          (none, .bin 17 .lss (.v 16) (.c (.int .i64 0)))])
        (.cond (.v 17)
         (.seq
          (.region [] [] [4] false [
            (none, .asg 4 (.c (.int .i64 (-1))) .copy)])
          (.ret [4]))
         (.skip [1])))
       (.seq
        (.region [] [] [4] false [
          (none, .mv 18 (.v 1)),
          (none, .asg 4 (.v 18) .copy)])
        (.ret [4])))))))⟩
def F413 : PFunc :=
 ⟨[false, false], [.tmp 4],
  (.seq
   (.region [] [] [0, 1] false [
     (none, .asg 4 (.c (.int .i64 0)) .copy)])
   (.seq
    (.region [(7, 0, false)] [] [0, 1] false [
      (none, .mv 6 (.v 1)),
      (none, .mv 7 (.v 0)),
      (none, .len 8 false (.v 7)),
      (none, .bin 9 .sub (.v 6) (.v 8)),
      (none, .asg 1 (.v 9) .copy)])
    (.seq
     (.seq
      (.region [] [] [0, 1, 11] false [
        (none, .mv 10 (.v 1)),
        (none, .bin 11 .lss (.v 10) (.c (.int .i64 0)))])
      (.cond (.v 11)
       (.seq
        (.region [] [] [4] false [
          (none, .asg 4 (.c (.int .i64 (-1))) .copy)])
        (.ret [4]))
       (.skip [0, 1])))
     (.seq
      (.seq
       (.region [] [] [0, 1, 5] false [
         (none, .asg 5 (.c (.int .i64 0)) .copy)])
       (.block 0
        (.loop
         (.seq
          (.seq
           (.region [(13, 0, false)] [] [0, 1, 5, 15] false [
             (none, .mv 12 (.v 5)),
             (none, .mv 13 (.v 0)),
             (none, .len 14 false (.v 13)),
             (none, .bin 15 .lss (.v 12) (.v 14))])
           (.cond (.v 15)
            (.skip [0, 1, 5])
            (.exit 0 [1])))
          (.seq
           (.block 1
            (.seq
             (.region [(20, 0, false), (18, 0, false)] [] [0, 1, 5] false [
               (none, .mv 18 (.v 0)),
               (none, .mv 19 (.v 5)),
               (none, .iadr 20 2 (.v 18) (.v 19)),
               (none, .load 21 true 2 (.v 20) (some .freeze)),
               (none, .mv 22 (.v 1)),
               (none, .call (some 23) 412 false [((.v 21), false), ((.v 22), false)]),
               (none, .asg 1 (.v 23) .copy)])
             (.seq
              (.region [] [] [0, 1, 5, 25] false [
                (none, .mv 24 (.v 1)),
                (none, .bin 25 .lss (.v 24) (.c (.int .i64 0)))])
              (.cond (.v 25)
               (.seq
                (.region [] [] [4] false [
                  (none, .asg 4 (.c (.int .i64 (-1))) .copy)])
                (.ret [4]))
               (.skip [0, 1, 5])))))
           (.region [] [] [0, 1, 5] false [
             (none, .mv 16 (.v 5)),
             (none, .bin 17 .add (.v 16) (.c (.int .i64 1))),
             (none, .asg 5 (.v 17) .copy)]))))))
      (.seq
       (.region [] [] [4] false [
         (none, .mv 26 (.v 1)),
         (none, .asg 4 (.v 26) .copy)])
       (.ret [4]))))))⟩
def F419 : PFunc :=
 ⟨[false], [.tmp 2],
  (.seq
   (.region [] [] [0] false [
     (none, .asg 2 (.c (.sl true 1 [])) .copy)])
   (.seq
    (.region [(5, 0, false)] [] [0, 3] false [
      (none, .mv 5 (.v 0)),
      (none, .len 6 false (.v 5)),
      (none, .make 7 1 (.int .i64 0) (.v 6)),
      (none, .asg 3 (.v 7) .move)])
    (.seq
     (.seq
      (.region [] [] [0, 3, 4] false [
        (none, .asg 4 (.c (.int .i64 0)) .copy)])
      (.block 0
       (.loop
        (.seq
         (.seq
          (.region [(9, 0, false)] [] [0, 3, 4, 11] false [
            (none, .mv 8 (.v 4)),
            (none, .mv 9 (.v 0)),
            (none, .len 10 false (.v 9)),
            (none, .bin 11 .lss (.v 8) (.v 10))])
          (.cond (.v 11)
           (.skip [0, 3, 4])
           (.exit 0 [3])))
         (.seq
          (.block 1
           (.region [(20, 3, false), (18, 0, false), (16, 0, false), (14, 3, false)] [] [0, 3, 4] false [
             (none, .mv 14 (.v 3)),
             (none, .mv 15 (.v 4)),
             (none, .mv 16 (.v 0)),
             (none, .mv 17 (.v 4)),
             (none, .iadr 18 1 (.v 16) (.v 17)),
             (none, .load 19 false 1 (.v 18) none),
             (none, .iadr 20 1 (.v 14) (.v 15)),
             (none, .store 1 (.v 20) (.v 19) .copy)]))
          (.region [] [] [0, 3, 4] false [
            (none, .mv 12 (.v 4)),
            (none, .bin 13 .add (.v 12) (.c (.int .i64 1))),
            (none, .asg 4 (.v 13) .copy)]))))))
     (.seq
      (.region [(21, 3, false)] [] [2] false [
        (none, .mv 21 (.v 3)),
        (none, .asg 2 (.v 21) .move)])
      (.ret [2])))))⟩
def F417 : PFunc :=
 ⟨[false], [.cell 2 true 2],
  (.seq
   (.region [] [] [1, 2] false [
     (none, .box 1 (.v 0) .move),
     (none, .new 2 (.agg [(.str []), (.sl true 1 [])]))])
   (.seq
    (.region [] [] [1, 2, 3] false [
      (none, .new 3 (.agg [(.str []), (.sl true 1 [])]))])
    (.seq
     (.region [(6, 3, false), (4, 1, false)] [] [1, 2, 3] false [
       (none, .fadr 4 0 1 (.v 1)),
       (none, .load 5 false 1 (.v 4) none),
       (none, .fadr 6 0 1 (.v 3)),
       (none, .store 1 (.v 6) (.v 5) .copy)])
     (.seq
      (.region [(10, 3, false), (8, 1, true), (7, 1, false)] [] [2, 3] false [
        (none, .fadr 7 1 1 (.v 1)),
        (none, .load 8 false 1 (.v 7) none),
        (none, .call (some 9) 419 false [((.v 8), false)]),
        (none, .fadr 10 1 1 (.v 3)),
        (none, .store 1 (.v 10) (.v 9) .move)])
      (.seq
       (.region [] [] [2] false [
         (none, .load 11 true 2 (.v 3) (some .move)),
         (none, .store 2 (.v 2) (.v 11) .move)])
       (.ret [2]))))))⟩
def F418 : PFunc :=
 ⟨[false], [.tmp 2],
  (.seq
   (.region [] [] [0] false [
     (none, .asg 2 (.c (.sl true 2 [])) .copy)])
   (.seq
    (.region [(5, 0, false)] [] [0, 3] false [
      (none, .mv 5 (.v 0)),
      (none, .len 6 false (.v 5)),
      (none, .make 7 2 (.agg [(.str []), (.sl true 1 [])]) (.v 6)),
      (none, .asg 3 (.v 7) .move)])
    (.seq
     (.seq
      (.region [] [] [0, 3, 4] false [
        (none, .asg 4 (.c (.int .i64 0)) .copy)])
      (.block 0
       (.loop
        (.seq
         (.seq
          (.region [(9, 0, false)] [] [0, 3, 4, 11] false [
            (none, .mv 8 (.v 4)),
            (none, .mv 9 (.v 0)),
            (none, .len 10 false (.v 9)),
            (none, .bin 11 .lss (.v 8) (.v 10))])
          (.cond (.v 11)
           (.skip [0, 3, 4])
           (.exit 0 [3])))
         (.seq
          (.block 1
           (.region [(21, 3, false), (18, 0, false), (16, 0, false), (14, 3, false)] [] [0, 3, 4] false [
             (none, .mv 14 (.v 3)),
             (none, .mv 15 (.v 4)),
             (none, .mv 16 (.v 0)),
             (none, .mv 17 (.v 4)),
             (none, .iadr 18 2 (.v 16) (.v 17)),
             (none, .load 19 true 2 (.v 18) (some .freeze)),
             (none, .call (some 20) 417 false [((.v 19), false)]),
             (none, .iadr 21 2 (.v 14) (.v 15)),
             (none, .store 2 (.v 21) (.v 20) .move)]))
          (.region [] [] [0, 3, 4] false [
            (none, .mv 12 (.v 4)),
            (none, .bin 13 .add (.v 12) (.c (.int .i64 1))),
            (none, .asg 4 (.v 13) .copy)]))))))
     (.seq
      (.region [(22, 3, false)] [] [2] false [
        (none, .mv 22 (.v 3)),
        (none, .asg 2 (.v 22) .move)])
      (.ret [2])))))⟩
def F678 : PFunc :=
 ⟨[false, false], [.tmp 4],
  (.seq
   (.region [] [] [0, 1] false [
     (none, .asg 4 (.c (.bool false)) .copy)])
   (.seq
    (.seq
     (.region [(8, 1, false), (6, 0, false)] [] [0, 1, 10] false [
       (none, .mv 6 (.v 0)),
       (none, .len 7 false (.v 6)),
       (none, .mv 8 (.v 1)),
       (none, .len 9 false (.v 8)),
       (none, .bin 10 .neq (.v 7) (.v 9))])
     (.cond (.v 10)
      (.seq
       (.region [(13, 1, false), (11, 0, false)] [] [4] false [
         (none, .mv 11 (.v 0)),
         (none, .len 12 false (.v 11)),
         (none, .mv 13 (.v 1)),
         (none, .len 14 false (.v 13)),
         (none, .bin 15 .lss (.v 12) (.v 14)),
         (none, .asg 4 (.v 15) .copy)])
       (.ret [4]))
      (.skip [0, 1])))
    (.seq
     (.seq
      (.region [] [] [0, 1, 5] false [
        (none, .asg 5 (.c (.int .i64 0)) .copy)])
      (.block 0
       (.loop
        (.seq
         (.seq
          (.region [(17, 0, false)] [] [0, 1, 5, 19] false [
            (none, .mv 16 (.v 5)),
            (none, .mv 17 (.v 0)),
            (none, .len 18 false (.v 17)),
            (none, .bin 19 .lss (.v 16) (.v 18))])
          (.cond (.v 19)
           (.skip [0, 1, 5])
           (.exit 0 [])))
         (.seq
          (.block 1
           (.seq
            (.region [(28, 1, false), (26, 1, false), (24, 0, false), (22, 0, false)] [] [0, 1, 5, 30] true [
              (none, .mv 22 (.v 0)),
              (none, .mv 23 (.v 5)),
              (none, .iadr 24 1 (.v 22) (.v 23)),
              (none, .load 25 false 1 (.v 24) none),
              (none, .mv 26 (.v 1)),
              (none, .mv 27 (.v 5)),
              (none, .iadr 28 1 (.v 26) (.v 27)),
              (none, .load 29 false 1 (.v 28) none),
              (none, .bin 30 .neq (.v 25) (.v 29))])
            (.cond (.v 30)
             (.seq
              (.region [(37, 1, false), (35, 1, false), (33, 0, false), (31, 0, false)] [] [4] true [
                (none, .mv 31 (.v 0)),
                (none, .mv 32 (.v 5)),
                (none, .iadr 33 1 (.v 31) (.v 32)),
                (none, .load 34 false 1 (.v 33) none),
                (none, .mv 35 (.v 1)),
                (none, .mv 36 (.v 5)),
                (none, .iadr 37 1 (.v 35) (.v 36)),
                (none, .load 38 false 1 (.v 37) none),
                (none, .bin 39 .lss (.v 34) (.v 38)),
                (none, .asg 4 (.v 39) .copy)])
              (.ret [4]))
             (.skip [0, 1, 5]))))
          (.region [] [] [0, 1, 5] false [
            (none, .mv 20 (.v 5)),
            (none, .bin 21 .add (.v 20) (.c (.int .i64 1))),
            (none, .asg 5 (.v 21) .copy)]))))))
     (.seq
      (.region [] [] [4] false [
        (none, .asg 4 (.c (.bool false)) .copy)])
      (.ret [4])))))⟩
def F771 : PFunc :=
 ⟨[false], [.tmp 2],
  (.seq
   (.region [] [] [0] false [
     (none, .asg 2 (.c (.sl true 1 [])) .copy)])
   (.seq
    (.region [] [] [0, 3] false [
      (none, .mksl 5 1 (.int .i64 0) 0 []),
      (none, .asg 3 (.v 5) .move)])
    (.seq
     (.seq
      (.region [] [] [0, 3, 4] false [
        (none, .asg 4 (.c (.int .i64 0)) .copy)])
      (.block 0
       (.loop
        (.seq
         (.seq
          (.region [] [] [0, 3, 4, 7] false [
            (none, .mv 6 (.v 4)),
            (none, .bin 7 .lss (.v 6) (.c (.int .i64 20)))])
          (.cond (.v 7)
           (.skip [0, 3, 4])
           (.exit 0 [3])))
         (.seq
          (.block 1
           (.seq
            (.region [] [] [0, 3, 4, 15] false [
              (none, .mv 10 (.v 0)),
              (none, .mv 11 (.v 4)),
              (none, .conv 12 .u64 (.v 11)),
              (none, .bin 13 .shr (.v 10) (.v 12)),
              (none, .bin 14 .and (.v 13) (.c (.int .i64 1))),
              (none, .bin 15 .eql (.v 14) (.c (.int .i64 1)))])
            (.cond (.v 15)
             (.region [(16, 3, false)] [] [0, 3, 4] false [
               (none, .mv 16 (.v 3)),
               (none, .mv 17 (.v 4)),
               (none, .mksl 18 1 (.int .i64 0) 1 [(0, (.v 17), .copy)]),
               (none, .app 19 1 (.v 16) (.v 18) .move),
               (none, .asg 3 (.v 19) .move)])
             (.skip [0, 3, 4]))))
          (.region [] [] [0, 3, 4] false [
            (none, .mv 8 (.v 4)),
            (none, .bin 9 .add (.v 8) (.c (.int .i64 1))),
            (none, .asg 4 (.v 9) .copy)]))))))
     (.seq
      (.region [(20, 3, false)] [] [2] false [
        (none, .mv 20 (.v 3)),
        (none, .asg 2 (.v 20) .move)])
      (.ret [2])))))⟩
def F766 : PFunc :=
 ⟨[false], [.tmp 2],
  (.seq
   (.region [] [] [0] false [
     (none, .asg 2 (.c (.int .i64 0)) .copy)])
   (.seq
    (.region [] [] [0, 3] false [
      (none, .asg 3 (.c (.int .i64 0)) .copy)])
    (.seq
     (.seq
      (.region [] [] [0, 3, 4] false [
        (none, .asg 4 (.c (.int .i64 0)) .copy)])
      (.block 0
       (.loop
        (.seq
         (.seq
          (.region [(6, 0, false)] [] [0, 3, 4, 8] false [
            (none, .mv 5 (.v 4)),
            (none, .mv 6 (.v 0)),
            (none, .len 7 false (.v 6)),
            (none, .bin 8 .lss (.v 5) (.v 7))])
          (.cond (.v 8)
           (.skip [0, 3, 4])
           (.exit 0 [3])))
         (.seq
          (.block 1
           (.region [(14, 0, false), (12, 0, false)] [] [0, 3, 4] false [
             (none, .mv 11 (.v 3)),
             (none, .mv 12 (.v 0)),
             (none, .mv 13 (.v 4)),
             (none, .iadr 14 1 (.v 12) (.v 13)),
             (none, .load 15 false 1 (.v 14) none),
             (none, .conv 16 .u64 (.v 15)),
             (none, .bin 17 .shl (.c (.int .i64 1)) (.v 16)),
             (none, .bin 18 .or (.v 11) (.v 17)),
             (none, .asg 3 (.v 18) .copy)]))
          (.region [] [] [0, 3, 4] false [
            (none, .mv 9 (.v 4)),
            (none, .bin 10 .add (.v 9) (.c (.int .i64 1))),
            (none, .asg 4 (.v 10) .copy)]))))))
     (.seq
      (.region [] [] [2] false [
        (none, .mv 19 (.v 3)),
        (none, .asg 2 (.v 19) .copy)])
      (.ret [2])))))⟩
def F774 : PFunc :=
 ⟨[false, false], [.tmp 4],
  (.seq
   (.region [] [] [0, 1] false [
     (none, .asg 4 (.c (.int .i64 0)) .copy)])
   (.seq
    (.region [] [] [0, 1, 5] false [
      (none, .asg 5 (.c (.int .i64 0)) .copy)])
    (.seq
     (.seq
      (.region [] [] [0, 1, 5, 6] false [
        (none, .asg 6 (.c (.int .i64 0)) .copy)])
      (.block 0
       (.loop
        (.seq
         (.seq
          (.region [(8, 0, false)] [] [0, 1, 5, 6, 10] false [
            (none, .mv 7 (.v 6)),
            (none, .mv 8 (.v 0)),
            (none, .len 9 false (.v 8)),
            (none, .bin 10 .lss (.v 7) (.v 9))])
          (.cond (.v 10)
           (.skip [0, 1, 5, 6])
           (.exit 0 [5])))
         (.seq
          (.block 1
           (.seq
            (.region [] [] [0, 1, 5, 6, 18] false [
              (none, .mv 13 (.v 1)),
              (none, .mv 14 (.v 6)),
              (none, .conv 15 .u64 (.v 14)),
              (none, .bin 16 .shr (.v 13) (.v 15)),
              (none, .bin 17 .and (.v 16) (.c (.int .i64 1))),
              (none, .bin 18 .eql (.v 17) (.c (.int .i64 1)))])
            (.cond (.v 18)
             (.region [(24, 0, true), (23, 0, false), (22, 0, false), (20, 0, false)] [] [0, 1, 5, 6] false [
               (none, .mv 19 (.v 5)),
               (none, .mv 20 (.v 0)),
               (none, .mv 21 (.v 6)),
               (none, .iadr 22 2 (.v 20) (.v 21)),
               (none, .fadr 23 1 1 (.v 22)),
               (none, .load 24 false 1 (.v 23) none),
               (none, .call (some 25) 766 false [((.v 24), false)]),
               (none, .bin 26 .or (.v 19) (.v 25)),
               (none, .asg 5 (.v 26) .copy)])
             (.skip [0, 1, 5, 6]))))
          (.region [] [] [0, 1, 5, 6] false [
            (none, .mv 11 (.v 6)),
            (none, .bin 12 .add (.v 11) (.c (.int .i64 1))),
            (none, .asg 6 (.v 12) .copy)]))))))
     (.seq
      (.region [] [] [4] false [
        (none, .mv 27 (.v 5)),
        (none, .asg 4 (.v 27) .copy)])
      (.ret [4])))))⟩
def F764 : PFunc :=
 ⟨[false, false], [.tmp 4],
  (.seq
   (.region [] [] [0, 1] false [
     (none, .asg 4 (.c (.sl true 1 [])) .copy)])
   (.seq
    (.region [(8, 1, false)] [] [0, 5] false [
      (none, .mv 8 (.v 1)),
      (none, .call (some 9) 766 false [((.v 8), false)]),
      (none, .asg 5 (.v 9) .copy)])
    (.seq
     (.region [] [] [0, 5, 6] false [
       (none, .mksl 10 1 (.int .i64 0) 0 []),
       (none, .asg 6 (.v 10) .move)])
     (.seq
      (.seq
       (.region [] [] [0, 5, 6, 7] false [
         (none, .asg 7 (.c (.int .i64 0)) .copy)])
       (.block 0
        (.loop
         (.seq
          (.seq
           (.region [(12, 0, false)] [] [0, 5, 6, 7, 16] false [
             (none, .mv 11 (.v 7)),
             (none, .mv 12 (.v 0)),
             (none, .len 13 false (.v 12)),
             (none, .conv 14 .u64 (.v 13)),
             (none, .bin 15 .shl (.c (.int .i64 1)) (.v 14)),
             (none, .bin 16 .lss (.v 11) (.v 15))])
           (.cond (.v 16)
            (.skip [0, 5, 6, 7])
            (.exit 0 [6])))
          (.seq
           (.block 1
            (.seq
             (.region [(19, 0, false)] [] [0, 5, 6, 7, 23] false [
               (none, .mv 19 (.v 0)),
               (none, .mv 20 (.v 7)),
               (none, .call (some 21) 774 false [((.v 19), false), ((.v 20), false)]),
               (none, .mv 22 (.v 5)),
               (none, .bin 23 .eql (.v 21) (.v 22))])
             (.cond (.v 23)
              (.region [(24, 6, false)] [] [0, 5, 6, 7] false [
                (none, .mv 24 (.v 6)),
                (none, .mv 25 (.v 7)),
                (none, .mksl 26 1 (.int .i64 0) 1 [(0, (.v 25), .copy)]),
                (none, .app 27 1 (.v 24) (.v 26) .move),
                (none, .asg 6 (.v 27) .move)])
              (.skip [0, 5, 6, 7]))))
           (.region [] [] [0, 5, 6, 7] false [
             (none, .mv 17 (.v 7)),
             (none, .bin 18 .add (.v 17) (.c (.int .i64 1))),
             (none, .asg 7 (.v 18) .copy)]))))))
      (.seq
       (.region [(28, 6, false)] [] [4] false [
         (none, .mv 28 (.v 6)),
         (none, .asg 4 (.v 28) .move)])
       (.ret [4]))))))⟩
def F605 : PFunc :=
 ⟨[false, false, false], [.tmp 6],
  (.seq
   (.region [] [] [0, 1, 2] false [
     (none, .asg 6 (.c (.bool false)) .copy)])
   (.seq
    (.region [] [] [6] false [
      (none, .mv 7 (.v 0)),
      (none, .mv 8 (.v 1)),
      (none, .bin 9 .geq (.v 7) (.v 8)),
      (none, .mv 10 (.v 9)),
      (some (10, true), .mv 11 (.v 0)),
      (some (10, true), .mv 12 (.v 2)),
      (some (10, true), .bin 13 .leq (.v 11) (.v 12)),
      (none, .pick 14 (.v 10) (.v 13) (.c (.bool false))),
      (none, .asg 6 (.v 14) .copy)])
    (.ret [6])))⟩
def F609 : PFunc :=
 ⟨[false, false, false], [.tmp 6],
  (.seq
   (.region [] [] [0, 1, 2] false [
     (none, .asg 6 (.c (.bool false)) .copy)])
   (.seq
    (.seq
     (.region [] [] [0, 1, 2, 7] false [
       (none, .asg 7 (.c (.int .i64 0)) .copy)])
     (.block 0
      (.loop
       (.seq
        (.seq
         (.region [(9, 0, false)] [] [0, 1, 2, 7, 11] false [
           (none, .mv 8 (.v 7)),
           (none, .mv 9 (.v 0)),
           (none, .len 10 false (.v 9)),
           (none, .bin 11 .lss (.v 8) (.v 10))])
         (.cond (.v 11)
          (.skip [0, 1, 2, 7])
          (.exit 0 [])))
        (.seq
         (.block 1
          (.seq
           (.region [(33, 0, false), (31, 0, false), (29, 0, false), (26, 0, false), (16, 0, false), (14, 0, false)] [] [0, 1, 2, 7, 37] true [
             (none, .mv 14 (.v 0)),
             (none, .mv 15 (.v 7)),
             (none, .iadr 16 1 (.v 14) (.v 15)),
             (none, .load 17 false 1 (.v 16) none),
             (none, .mv 18 (.v 1)),
             (none, .mv 19 (.v 2)),
             (none, .call (some 20) 605 false [((.v 17), false), ((.v 18), false), ((.v 19), false)]),
             (none, .un 21 .not (.v 20)),
             (none, .mv 22 (.v 21)),
             (some (22, false), .mv 23 (.v 7)),
             (some (22, false), .bin 24 .gtr (.v 23) (.c (.int .i64 0))),
             (some (22, false), .mv 25 (.v 24)),
             (some (25, true), .mv 26 (.v 0)),
             (some (25, true), .mv 27 (.v 7)),
             (some (25, true), .bin 28 .sub (.v 27) (.c (.int .i64 1))),
             (some (25, true), .iadr 29 1 (.v 26) (.v 28)),
             (some (25, true), .load 30 false 1 (.v 29) none),
             (some (25, true), .mv 31 (.v 0)),
             (some (25, true), .mv 32 (.v 7)),
             (some (25, true), .iadr 33 1 (.v 31) (.v 32)),
             (some (25, true), .load 34 false 1 (.v 33) none),
             (some (25, true), .bin 35 .geq (.v 30) (.v 34)),
             (some (22, false), .pick 36 (.v 25) (.v 35) (.c (.bool false))),
             (none, .pick 37 (.v 22) (.c (.bool true)) (.v 36))])
           (.cond (.v 37)
            (.seq
             (.region [] [] [6] false [
               (none, .asg 6 (.c (.bool false)) .copy)])
             (.ret [6]))
            (.skip [0, 1, 2, 7]))))
         (.region [] [] [0, 1, 2, 7] false [
           (none, .mv 12 (.v 7)),
           (none, .bin 13 .add (.v 12) (.c (.int .i64 1))),
           (none, .asg 7 (.v 13) .copy)]))))))
    (.seq
     (.region [] [] [6] false [
       (none, .asg 6 (.c (.bool true)) .copy)])
     (.ret [6]))))⟩
def F612 : PFunc :=
 ⟨[false], [.tmp 2],
  (.seq
   (.region [] [] [0] false [
     (none, .asg 2 (.c (.bool false)) .copy)])
   (.seq
    (.region [] [] [2] false [
      (none, .mv 3 (.v 0)),
      (none, .bin 4 .geq (.v 3) (.c (.int .u8 48))),
      (none, .mv 5 (.v 4)),
      (some (5, true), .mv 6 (.v 0)),
      (some (5, true), .bin 7 .leq (.v 6) (.c (.int .u8 57))),
      (none, .pick 8 (.v 5) (.v 7) (.c (.bool false))),
      (none, .asg 2 (.v 8) .copy)])
    (.ret [2])))⟩
def F613 : PFunc :=
 ⟨[false], [.tmp 2],
  (.seq
   (.region [] [] [0] false [
     (none, .asg 2 (.c (.bool false)) .copy)])
   (.seq
    (.region [] [] [2] false [
      (none, .mv 3 (.v 0)),
      (none, .bin 4 .geq (.v 3) (.c (.int .u8 97))),
      (none, .mv 5 (.v 4)),
      (some (5, true), .mv 6 (.v 0)),
      (some (5, true), .bin 7 .leq (.v 6) (.c (.int .u8 122))),
      (none, .pick 8 (.v 5) (.v 7) (.c (.bool false))),
      (none, .asg 2 (.v 8) .copy)])
    (.ret [2])))⟩
def F533 : PFunc :=
 ⟨[false], [.tmp 2],
  (.seq
   (.region [] [] [0] false [
     (none, .asg 2 (.c (.bool false)) .copy)])
   (.seq
    (.seq
     (.region [] [] [0, 16] false [
       (none, .mv 4 (.v 0)),
       (none, .bin 5 .eql (.v 4) (.c (.str []))),
       (none, .mv 6 (.v 5)),
       (some (6, false), .mv 7 (.v 0)),
       (some (6, false), .len 8 true (.v 7)),
       (some (6, false), .bin 9 .gtr (.v 8) (.c (.int .i64 12))),
       (none, .pick 10 (.v 6) (.c (.bool true)) (.v 9)),
       (none, .mv 11 (.v 10)),
       (some (11, false), .mv 12 (.v 0)),
       (some (11, false), .idx 13 (.v 12) (.c (.int .i64 0))),
       (some (11, false), .call (some 14) 613 false [((.v 13), false)]),
       (some (11, false), .un 15 .not (.v 14)),
       (none, .pick 16 (.v 11) (.c (.bool true)) (.v 15))])
     (.cond (.v 16)
      (.seq
       (.region [] [] [2] false [
         (none, .asg 2 (.c (.bool false)) .copy)])
       (.ret [2]))
      (.skip [0])))
    (.seq
     (.seq
      (.region [] [] [0, 3] false [
        (none, .asg 3 (.c (.int .i64 0)) .copy)])
      (.block 0
       (.loop
        (.seq
         (.seq
          (.region [] [] [0, 3, 20] false [
            (none, .mv 17 (.v 3)),
            (none, .mv 18 (.v 0)),
            (none, .len 19 true (.v 18)),
            (none, .bin 20 .lss (.v 17) (.v 19))])
          (.cond (.v 20)
           (.skip [0, 3])
           (.exit 0 [])))
         (.seq
          (.block 1
           (.seq
            (.region [] [] [0, 3, 40] false [
              (none, .mv 23 (.v 0)),
              (none, .mv 24 (.v 3)),
              (none, .idx 25 (.v 23) (.v 24)),
              (none, .call (some 26) 613 false [((.v 25), false)]),
              (none, .un 27 .not (.v 26)),
              (none, .mv 28 (.v 27)),
              (some (28, true), .mv 29 (.v 0)),
              (some (28, true), .mv 30 (.v 3)),
              (some (28, true), .idx 31 (.v 29) (.v 30)),
              (some (28, true), .call (some 32) 612 false [((.v 31), false)]),
              (some (28, true), .un 33 .not (.v 32)),
              (none, .pick 34 (.v 28) (.v 33) (.c (.bool false))),
              (none, .mv 35 (.v 34)),
              (some (35, true), .mv 36 (.v 0)),
              (some (35, true), .mv 37 (.v 3)),
              (some (35, true), .idx 38 (.v 36) (.v 37)),
              (some (35, true), .bin 39 .neq (.v 38) (.c (.int .u8 45))),
              (none, .pick 40 (.v 35) (.v 39) (.c (.bool false)))])
            (.cond (.v 40)
             (.seq
              (.region [] [] [2] false [
                (none, .asg 2 (.c (.bool false)) .copy)])
              (.ret [2]))
             (.skip [0, 3]))))
          (.region [] [] [0, 3] false [
            (none, .mv 21 (.v 3)),
            (none, .bin 22 .add (.v 21) (.c (.int .i64 1))),
            (none, .asg 3 (.v 22) .copy)]))))))
     (.seq
      (.region [] [] [2] false [
        (none, .asg 2 (.c (.bool true)) .copy)])
      (.ret [2])))))⟩
def F772 : PFunc :=
 ⟨[false, false], [.tmp 4],
  (.seq
   (.region [] [] [0, 1] false [
     (none, .asg 4 (.c (.bool false)) .copy)])
   (.seq
    (.seq
     (.region [(11, 1, false)] [] [0, 1, 14] false [
       (none, .mv 7 (.v 0)),
       (none, .call (some 8) 605 false [((.v 7), false), ((.c (.int .i64 1)), false), ((.c (.int .i64 16)), false)]),
       (none, .un 9 .not (.v 8)),
       (none, .mv 10 (.v 9)),
       (some (10, false), .mv 11 (.v 1)),
       (some (10, false), .len 12 false (.v 11)),
       (some (10, false), .bin 13 .gtr (.v 12) (.c (.int .i64 10))),
       (none, .pick 14 (.v 10) (.c (.bool true)) (.v 13))])
     (.cond (.v 14)
      (.seq
       (.region [] [] [4] false [
         (none, .asg 4 (.c (.bool false)) .copy)])
       (.ret [4]))
      (.skip [0, 1])))
    (.seq
     (.seq
      (.region [] [] [0, 1, 5] false [
        (none, .asg 5 (.c (.int .i64 0)) .copy)])
      (.block 0
       (.loop
        (.seq
         (.seq
          (.region [(16, 1, false)] [] [0, 1, 5, 18] false [
            (none, .mv 15 (.v 5)),
            (none, .mv 16 (.v 1)),
            (none, .len 17 false (.v 16)),
            (none, .bin 18 .lss (.v 15) (.v 17))])
          (.cond (.v 18)
           (.skip [0, 1, 5])
           (.exit 0 [])))
         (.seq
          (.block 1
           (.seq
            (.seq
             (.region [(42, 1, true), (41, 1, false), (40, 1, false), (38, 1, false), (33, 1, true), (32, 1, false), (31, 1, false), (29, 1, false), (24, 1, false), (23, 1, false), (21, 1, false)] [] [0, 1, 5, 47] false [
               (none, .mv 21 (.v 1)),
               (none, .mv 22 (.v 5)),
               (none, .iadr 23 2 (.v 21) (.v 22)),
               (none, .fadr 24 0 1 (.v 23)),
               (none, .load 25 false 1 (.v 24) none),
               (none, .call (some 26) 533 false [((.v 25), false)]),
               (none, .un 27 .not (.v 26)),
               (none, .mv 28 (.v 27)),
               (some (28, false), .mv 29 (.v 1)),
               (some (28, false), .mv 30 (.v 5)),
               (some (28, false), .iadr 31 2 (.v 29) (.v 30)),
               (some (28, false), .fadr 32 1 1 (.v 31)),
               (some (28, false), .load 33 false 1 (.v 32) none),
               (some (28, false), .len 34 false (.v 33)),
               (some (28, false), .bin 35 .eql (.v 34) (.c (.int .i64 0))),
               (none, .pick 36 (.v 28) (.c (.bool true)) (.v 35)),
               (none, .mv 37 (.v 36)),
               (some (37, false), .mv 38 (.v 1)),
               (some (37, false), .mv 39 (.v 5)),
               (some (37, false), .iadr 40 2 (.v 38) (.v 39)),
               (some (37, false), .fadr 41 1 1 (.v 40)),
               (some (37, false), .load 42 false 1 (.v 41) none),
               (some (37, false), .mv 43 (.v 0)),
               (some (37, false), .bin 44 .sub (.v 43) (.c (.int .i64 1))),
               (some (37, false), .call (some 45) 609 false [((.v 42), false), ((.c (.int .i64 0)), false), ((.v 44), false)]),
               (some (37, false), .un 46 .not (.v 45)),
               (none, .pick 47 (.v 37) (.c (.bool true)) (.v 46))])
             (.cond (.v 47)
              (.seq
               (.region [] [] [4] false [
                 (none, .asg 4 (.c (.bool false)) .copy)])
               (.ret [4]))
              (.skip [0, 1, 5])))
            (.seq
             (.region [] [] [0, 1, 5, 6] false [
               (none, .asg 6 (.c (.int .i64 0)) .copy)])
             (.block 2
              (.loop
               (.seq
                (.seq
                 (.region [] [] [0, 1, 5, 6, 50] false [
                   (none, .mv 48 (.v 6)),
                   (none, .mv 49 (.v 5)),
                   (none, .bin 50 .lss (.v 48) (.v 49))])
                 (.cond (.v 50)
                  (.skip [0, 1, 5, 6])
                  (.exit 2 [0, 1, 5])))
                (.seq
                 (.block 3
                  (.seq
                   (.region [(61, 1, false), (60, 1, false), (58, 1, false), (56, 1, false), (55, 1, false), (53, 1, false)] [] [0, 1, 5, 6, 63] true [
                     (none, .mv 53 (.v 1)),
                     (none, .mv 54 (.v 6)),
                     (none, .iadr 55 2 (.v 53) (.v 54)),
                     (none, .fadr 56 0 1 (.v 55)),
                     (none, .load 57 false 1 (.v 56) none),
                     (none, .mv 58 (.v 1)),
                     (none, .mv 59 (.v 5)),
                     (none, .iadr 60 2 (.v 58) (.v 59)),
                     (none, .fadr 61 0 1 (.v 60)),
                     (none, .load 62 false 1 (.v 61) none),
                     (none, .bin 63 .eql (.v 57) (.v 62))])
                   (.cond (.v 63)
                    (.seq
                     (.region [] [] [4] false [
                       (none, .asg 4 (.c (.bool false)) .copy)])
                     (.ret [4]))
                    (.skip [0, 1, 5, 6]))))
                 (.region [] [] [0, 1, 5, 6] false [
                   (none, .mv 51 (.v 6)),
                   (none, .bin 52 .add (.v 51) (.c (.int .i64 1))),
                   (none, .asg 6 (.v 52) .copy)]))))))))
          (.region [] [] [0, 1, 5] false [
            (none, .mv 19 (.v 5)),
            (none, .bin 20 .add (.v 19) (.c (.int .i64 1))),
            (none, .asg 5 (.v 20) .copy)]))))))
     (.seq
      (.region [] [] [4] false [
        (none, .asg 4 (.c (.bool true)) .copy)])
      (.ret [4])))))⟩
def F767 : PFunc :=
 ⟨[false, false, false], [.tmp 6],
  (.seq
   (.region [] [] [0, 1, 2] false [
     (none, .asg 6 (.c (.int .i64 0)) .copy)])
   (.seq
    (.seq
     (.region [(8, 1, false)] [] [0, 2, 10] false [
       (none, .mv 7 (.v 0)),
       (none, .mv 8 (.v 1)),
       (none, .call (some 9) 772 false [((.v 7), false), ((.v 8), false)]),
       (none, .un 10 .not (.v 9))])
     (.cond (.v 10)
      (.seq
       (.region [] [] [6] false [
         (none, .asg 6 (.c (.int .i64 1)) .copy)])
       (.ret [6]))
      (.skip [0, 2])))
    (.seq
     (.seq
      (.region [(11, 2, false)] [] [15] false [
        (none, .mv 11 (.v 2)),
        (none, .mv 12 (.v 0)),
        (none, .bin 13 .sub (.v 12) (.c (.int .i64 1))),
        (none, .call (some 14) 609 false [((.v 11), false), ((.c (.int .i64 0)), false), ((.v 13), false)]),
        (none, .un 15 .not (.v 14))])
      (.cond (.v 15)
       (.seq
        (.region [] [] [6] false [
          (none, .asg 6 (.c (.int .i64 2)) .copy)])
        (.ret [6]))
       (.skip [])))
     (.seq
      (.region [] [] [6] false [
        (none, .asg 6 (.c (.int .i64 0)) .copy)])
      (.ret [6])))))⟩
def F775 : PFunc :=
 ⟨[false, false, false], [.tmp 6, .tmp 7],
  (.seq
   (.region [] [] [0, 1, 2] false [
     (none, .asg 6 (.c (.sl true 1 [])) .copy),
     (none, .asg 7 (.c (.int .i64 0)) .copy)])
   (.seq
    (.region [(12, 2, false), (11, 1, false)] [] [1, 2, 8] false [
      (none, .mv 10 (.v 0)),
      (none, .mv 11 (.v 1)),
      (none, .mv 12 (.v 2)),
      (none, .call (some 13) 767 false [((.v 10), false), ((.v 11), false), ((.v 12), false)]),
      (none, .asg 8 (.v 13) .copy)])
    (.seq
     (.seq
      (.region [] [] [1, 2, 8, 15] false [
        (none, .mv 14 (.v 8)),
        (none, .bin 15 .neq (.v 14) (.c (.int .i64 0)))])
      (.cond (.v 15)
       (.seq
        (.region [] [] [6, 7] false [
          (none, .mv 16 (.v 8)),
          (none, .asg 6 (.c (.sl true 1 [])) .copy),
          (none, .asg 7 (.v 16) .copy)])
        (.ret [6, 7]))
       (.skip [1, 2])))
     (.seq
      (.region [(18, 2, false), (17, 1, false)] [] [9] false [
        (none, .mv 17 (.v 1)),
        (none, .mv 18 (.v 2)),
        (none, .call (some 19) 764 false [((.v 17), false), ((.v 18), false)]),
        (none, .asg 9 (.v 19) .move)])
      (.seq
       (.seq
        (.region [(20, 9, false)] [] [9, 22] false [
          (none, .mv 20 (.v 9)),
          (none, .len 21 false (.v 20)),
          (none, .bin 22 .eql (.v 21) (.c (.int .i64 0)))])
        (.cond (.v 22)
         (.seq
          (.region [] [] [6, 7] false [
            (none, .asg 6 (.c (.sl true 1 [])) .copy),
            (none, .asg 7 (.c (.int .i64 3)) .copy)])
          (.ret [6, 7]))
         (.skip [9])))
       (.seq
        (.region [(23, 9, false)] [] [6, 7] false [
          (none, .mv 23 (.v 9)),
          (none, .asg 6 (.v 23) .move),
          (none, .asg 7 (.c (.int .i64 0)) .copy)])
        (.ret [6, 7])))))))⟩
def F517 : PFunc :=
 ⟨[false, false, false], [.tmp 6, .tmp 7],
  (.seq
   (.region [] [] [0, 1, 2] false [
     (none, .asg 6 (.c (.sl true 1 [])) .copy),
     (none, .asg 7 (.c (.int .i64 0)) .copy)])
   (.seq
    (.region [(16, 2, false), (15, 1, false)] [] [8, 9] false [
      (none, .mv 14 (.v 0)),
      (none, .mv 15 (.v 1)),
      (none, .mv 16 (.v 2)),
      (none, .call (some 17) 775 false [((.v 14), false), ((.v 15), false), ((.v 16), false)]),
      (none, .asg 13 (.v 17) .move),
      (none, .ext 18 (.v 13) 0),
      (none, .extp 19 (.v 13) 1),
      (none, .asg 8 (.v 18) .move),
      (none, .asg 9 (.v 19) .copy)])
    (.seq
     (.seq
      (.region [] [] [8, 9, 21] false [
        (none, .mv 20 (.v 9)),
        (none, .bin 21 .neq (.v 20) (.c (.int .i64 0)))])
      (.cond (.v 21)
       (.seq
        (.region [] [] [6, 7] false [
          (none, .mv 22 (.v 9)),
          (none, .asg 6 (.c (.sl true 1 [])) .copy),
          (none, .asg 7 (.v 22) .copy)])
        (.ret [6, 7]))
       (.skip [8])))
     (.seq
      (.region [(24, 8, false), (23, 8, false)] [] [8, 10] false [
        (none, .mv 23 (.v 8)),
        (none, .iadr 24 1 (.v 23) (.c (.int .i64 0))),
        (none, .load 25 false 1 (.v 24) none),
        (none, .call (some 26) 771 false [((.v 25), false)]),
        (none, .asg 10 (.v 26) .move)])
      (.seq
       (.seq
        (.region [] [] [8, 10, 11] false [
          (none, .asg 11 (.c (.int .i64 1)) .copy)])
        (.block 0
         (.loop
          (.seq
           (.seq
            (.region [(28, 8, false)] [] [8, 10, 11, 30] false [
              (none, .mv 27 (.v 11)),
              (none, .mv 28 (.v 8)),
              (none, .len 29 false (.v 28)),
              (none, .bin 30 .lss (.v 27) (.v 29))])
            (.cond (.v 30)
             (.skip [8, 10, 11])
             (.exit 0 [10])))
           (.seq
            (.block 1
             (.seq
              (.region [(35, 8, false), (33, 8, false)] [] [8, 10, 11, 12] false [
                (none, .mv 33 (.v 8)),
                (none, .mv 34 (.v 11)),
                (none, .iadr 35 1 (.v 33) (.v 34)),
                (none, .load 36 false 1 (.v 35) none),
                (none, .call (some 37) 771 false [((.v 36), false)]),
                (none, .asg 12 (.v 37) .move)])
              (.seq
               (.region [(39, 10, false), (38, 12, false)] [] [8, 10, 11, 12, 40] false [
                 (none, .mv 38 (.v 12)),
                 (none, .mv 39 (.v 10)),
                 (none, .call (some 40) 678 false [((.v 38), false), ((.v 39), false)])])
               (.cond (.v 40)
                (.region [(41, 12, false)] [] [8, 10, 11] false [
                  (none, .mv 41 (.v 12)),
                  (none, .asg 10 (.v 41) .move)])
                (.skip [8, 10, 11])))))
            (.region [] [] [8, 10, 11] false [
              (none, .mv 31 (.v 11)),
              (none, .bin 32 .add (.v 31) (.c (.int .i64 1))),
              (none, .asg 11 (.v 32) .copy)]))))))
       (.seq
        (.region [(42, 10, false)] [] [6, 7] false [
          (none, .mv 42 (.v 10)),
          (none, .asg 6 (.v 42) .move),
          (none, .asg 7 (.c (.int .i64 0)) .copy)])
        (.ret [6, 7])))))))⟩
def F340 : PFunc :=
 ⟨[false, false, false], [.tmp 6],
  (.seq
   (.region [] [] [0, 1, 2] false [
     (none, .asg 6 (.c (.bool false)) .copy)])
   (.seq
    (.seq
     (.region [(19, 2, false)] [] [0, 1, 2, 21] false [
       (none, .mv 19 (.v 2)),
       (none, .len 20 false (.v 19)),
       (none, .bin 21 .gtr (.v 20) (.c (.int .i64 1048576)))])
     (.cond (.v 21)
      (.seq
       (.region [] [] [6] false [
         (none, .asg 6 (.c (.bool true)) .copy)])
       (.ret [6]))
      (.skip [0, 1, 2])))
    (.seq
     (.region [] [] [0, 1, 2, 7] false [
       (none, .asg 7 (.c (.int .i64 1048576)) .copy)])
     (.seq
      (.region [(22, 1, false)] [] [0, 1, 2, 7] false [
        (none, .mv 22 (.v 1)),
        (none, .mv 23 (.v 7)),
        (none, .call (some 24) 413 false [((.v 22), false), ((.v 23), false)]),
        (none, .asg 7 (.v 24) .copy)])
      (.seq
       (.seq
        (.region [] [] [0, 1, 2, 26] false [
          (none, .mv 25 (.v 7)),
          (none, .bin 26 .lss (.v 25) (.c (.int .i64 0)))])
        (.cond (.v 26)
         (.seq
          (.region [] [] [6] false [
            (none, .asg 6 (.c (.bool true)) .copy)])
          (.ret [6]))
         (.skip [0, 1, 2])))
       (.seq
        (.region [(31, 2, false), (29, 1, false)] [] [0, 1, 2, 8, 9] false [
          (none, .mv 28 (.v 0)),
          (none, .mv 29 (.v 1)),
          (none, .call (some 30) 418 false [((.v 29), false)]),
          (none, .mv 31 (.v 2)),
          (none, .call (some 32) 419 false [((.v 31), false)]),
          (none, .call (some 33) 517 false [((.v 28), false), ((.v 30), false), ((.v 32), false)]),
          (none, .asg 27 (.v 33) .move),
          (none, .ext 34 (.v 27) 0),
          (none, .extp 35 (.v 27) 1),
          (none, .asg 8 (.v 34) .move),
          (none, .asg 9 (.v 35) .copy)])
        (.seq
         (.region [(36, 1, false)] [] [0, 1, 2, 8, 9, 10] false [
           (none, .mv 36 (.v 1)),
           (none, .call (some 37) 418 false [((.v 36), false)]),
           (none, .asg 10 (.v 37) .move)])
         (.seq
          (.region [(38, 2, false)] [] [0, 1, 2, 8, 9, 10, 11] false [
            (none, .mv 38 (.v 2)),
            (none, .call (some 39) 419 false [((.v 38), false)]),
            (none, .asg 11 (.v 39) .move)])
          (.seq
           (.region [(43, 11, false), (42, 10, false)] [] [0, 1, 2, 8, 9, 10, 11, 12, 13] false [
             (none, .mv 41 (.v 0)),
             (none, .mv 42 (.v 10)),
             (none, .mv 43 (.v 11)),
             (none, .call (some 44) 85 false [((.v 41), false), ((.v 42), false), ((.v 43), false)]),
             (none, .asg 40 (.v 44) .move),
             (none, .ext 45 (.v 40) 0),
             (none, .extp 46 (.v 40) 1),
             (none, .asg 12 (.v 45) .move),
             (none, .asg 13 (.v 46) .copy)])
           (.seq
            (.seq
             (.region [(48, 8, false), (47, 12, false)] [] [0, 1, 2, 8, 9, 10, 11, 12, 13, 55] false [
               (none, .mv 47 (.v 12)),
               (none, .mv 48 (.v 8)),
               (none, .call (some 49) 393 false [((.v 47), false), ((.v 48), false)]),
               (none, .un 50 .not (.v 49)),
               (none, .mv 51 (.v 50)),
               (some (51, false), .mv 52 (.v 13)),
               (some (51, false), .mv 53 (.v 9)),
               (some (51, false), .bin 54 .neq (.v 52) (.v 53)),
               (none, .pick 55 (.v 51) (.c (.bool true)) (.v 54))])
             (.cond (.v 55)
              (.seq
               (.region [] [] [6] false [
                 (none, .asg 6 (.c (.bool false)) .copy)])
               (.ret [6]))
              (.skip [0, 1, 2, 8, 9, 10, 11, 12, 13])))
            (.seq
             (.seq
              (.region [(57, 1, false), (56, 10, false)] [] [0, 1, 2, 8, 9, 10, 11, 12, 13, 60] false [
                (none, .mv 56 (.v 10)),
                (none, .mv 57 (.v 1)),
                (none, .call (some 58) 418 false [((.v 57), false)]),
                (none, .call (some 59) 392 false [((.v 56), false), ((.v 58), false)]),
                (none, .un 60 .not (.v 59))])
              (.cond (.v 60)
               (.seq
                (.region [] [] [6] false [
                  (none, .asg 6 (.c (.bool false)) .copy)])
                (.ret [6]))
               (.skip [0, 1, 2, 8, 9, 10, 11, 12, 13])))
             (.seq
              (.seq
               (.region [(62, 2, false), (61, 11, false)] [] [0, 1, 2, 8, 9, 10, 11, 12, 13, 65] false [
                 (none, .mv 61 (.v 11)),
                 (none, .mv 62 (.v 2)),
                 (none, .call (some 63) 419 false [((.v 62), false)]),
                 (none, .call (some 64) 393 false [((.v 61), false), ((.v 63), false)]),
                 (none, .un 65 .not (.v 64))])
               (.cond (.v 65)
                (.seq
                 (.region [] [] [6] false [
                   (none, .asg 6 (.c (.bool false)) .copy)])
                 (.ret [6]))
                (.skip [0, 1, 2, 8, 9, 10, 11, 12, 13])))
              (.seq
               (.region [] [] [0, 1, 2, 8, 9, 10, 11, 12, 13, 14] false [
                 (none, .asg 14 (.c (.int .i64 1)) .copy)])
               (.seq
                (.region [(66, 10, false)] [] [0, 1, 2, 8, 9, 11, 12, 13, 14] false [
                  (none, .mv 66 (.v 10)),
                  (none, .mv 67 (.v 14)),
                  (none, .call (some 68) 407 false [((.v 66), true), ((.v 67), false)]),
                  (none, .asg 14 (.v 68) .copy)])
                (.seq
                 (.region [(69, 11, false)] [] [0, 1, 2, 8, 9, 12, 13, 14] false [
                   (none, .mv 69 (.v 11)),
                   (none, .mv 70 (.v 14)),
                   (none, .call (some 71) 408 false [((.v 69), true), ((.v 70), false)]),
                   (none, .asg 14 (.v 71) .copy)])
                 (.seq
                  (.seq
                   (.region [(76, 8, false), (75, 12, false)] [] [0, 1, 2, 8, 9, 12, 84] false [
                     (none, .mv 72 (.v 14)),
                     (none, .bin 73 .lss (.v 72) (.c (.int .i64 0))),
                     (none, .mv 74 (.v 73)),
                     (some (74, false), .mv 75 (.v 12)),
                     (some (74, false), .mv 76 (.v 8)),
                     (some (74, false), .call (some 77) 393 false [((.v 75), false), ((.v 76), false)]),
                     (some (74, false), .un 78 .not (.v 77)),
                     (none, .pick 79 (.v 74) (.c (.bool true)) (.v 78)),
                     (none, .mv 80 (.v 79)),
                     (some (80, false), .mv 81 (.v 13)),
                     (some (80, false), .mv 82 (.v 9)),
                     (some (80, false), .bin 83 .neq (.v 81) (.v 82)),
                     (none, .pick 84 (.v 80) (.c (.bool true)) (.v 83))])
                   (.cond (.v 84)
                    (.seq
                     (.region [] [] [6] false [
                       (none, .asg 6 (.c (.bool false)) .copy)])
                     (.ret [6]))
                    (.skip [0, 1, 2, 8, 9, 12])))
                  (.seq
                   (.region [] [] [0, 1, 2, 8, 9, 12, 15] false [
                     (none, .asg 15 (.c (.int .i64 1)) .copy)])
                   (.seq
                    (.region [(85, 12, false)] [] [0, 1, 2, 8, 9, 12, 15] false [
                      (none, .mv 85 (.v 12)),
                      (none, .mv 86 (.v 15)),
                      (none, .call (some 87) 408 false [((.v 85), true), ((.v 86), false)]),
                      (none, .asg 15 (.v 87) .copy)])
                    (.seq
                     (.region [] [] [0, 1, 2, 8, 9, 12, 15, 16] false [
                       (none, .asg 16 (.c (.int .i64 1)) .copy)])
                     (.seq
                      (.region [(88, 12, false)] [] [0, 1, 2, 8, 9, 12, 15, 16] false [
                        (none, .mv 88 (.v 12)),
                        (none, .mv 89 (.v 16)),
                        (none, .call (some 90) 405 false [((.v 88), false), ((.v 89), false)]),
                        (none, .asg 16 (.v 90) .copy)])
                      (.seq
                       (.seq
                        (.region [] [] [0, 1, 2, 8, 9, 12, 15, 16, 92] false [
                          (none, .mv 91 (.v 16)),
                          (none, .bin 92 .lss (.v 91) (.c (.int .i64 0)))])
                        (.cond (.v 92)
                         (.seq
                          (.region [] [] [6] false [
                            (none, .asg 6 (.c (.bool false)) .copy)])
                          (.ret [6]))
                         (.skip [0, 1, 2, 8, 9, 12, 15, 16])))
                       (.seq
                        (.seq
                         (.region [] [] [0, 1, 2, 8, 9, 12, 15, 95] false [
                           (none, .mv 93 (.v 16)),
                           (none, .mv 94 (.v 15)),
                           (none, .bin 95 .neq (.v 93) (.v 94))])
                         (.cond (.v 95)
                          (.seq
                           (.region [] [] [6] false [
                             (none, .asg 6 (.c (.bool false)) .copy)])
                           (.ret [6]))
                          (.skip [0, 1, 2, 8, 9, 12, 15])))
                        (.seq
                         (.region [(100, 2, false), (98, 1, false)] [] [8, 9, 12, 15, 17, 18] false [
                           (none, .mv 97 (.v 0)),
                           (none, .mv 98 (.v 1)),
                           (none, .call (some 99) 418 false [((.v 98), false)]),
                           (none, .mv 100 (.v 2)),
                           (none, .call (some 101) 419 false [((.v 100), false)]),
                           (none, .call (some 102) 85 false [((.v 97), false), ((.v 99), false), ((.v 101), false)]),
                           (none, .asg 96 (.v 102) .move),
                           (none, .ext 103 (.v 96) 0),
                           (none, .extp 104 (.v 96) 1),
                           (none, .asg 17 (.v 103) .move),
                           (none, .asg 18 (.v 104) .copy)])
                         (.seq
                          (.seq
                           (.region [(106, 8, false), (105, 17, false)] [] [12, 15, 113] false [
                             (none, .mv 105 (.v 17)),
                             (none, .mv 106 (.v 8)),
                             (none, .call (some 107) 393 false [((.v 105), false), ((.v 106), false)]),
                             (none, .un 108 .not (.v 107)),
                             (none, .mv 109 (.v 108)),
                             (some (109, false), .mv 110 (.v 18)),
                             (some (109, false), .mv 111 (.v 9)),
                             (some (109, false), .bin 112 .neq (.v 110) (.v 111)),
                             (none, .pick 113 (.v 109) (.c (.bool true)) (.v 112))])
                           (.cond (.v 113)
                            (.seq
                             (.region [] [] [6] false [
                               (none, .asg 6 (.c (.bool false)) .copy)])
                             (.ret [6]))
                            (.skip [12, 15])))
                          (.seq
                           (.region [] [] [12, 15, 16] false [
                             (none, .asg 16 (.c (.int .i64 1)) .copy)])
                           (.seq
                            (.region [(114, 12, false)] [] [15, 16] false [
                              (none, .mv 114 (.v 12)),
                              (none, .mv 115 (.v 16)),
                              (none, .call (some 116) 405 false [((.v 114), false), ((.v 115), false)]),
                              (none, .asg 16 (.v 116) .copy)])
                            (.seq
                             (.seq
                              (.region [] [] [15, 16, 118] false [
                                (none, .mv 117 (.v 16)),
                                (none, .bin 118 .lss (.v 117) (.c (.int .i64 0)))])
                              (.cond (.v 118)
                               (.seq
                                (.region [] [] [6] false [
                                  (none, .asg 6 (.c (.bool false)) .copy)])
                                (.ret [6]))
                               (.skip [15, 16])))
                             (.seq
                              (.seq
                               (.region [] [] [121] false [
                                 (none, .mv 119 (.v 16)),
                                 (none, .mv 120 (.v 15)),
                                 (none, .bin 121 .neq (.v 119) (.v 120))])
                               (.cond (.v 121)
                                (.seq
                                 (.region [] [] [6] false [
                                   (none, .asg 6 (.c (.bool false)) .copy)])
                                 (.ret [6]))
                                (.skip [])))
                              (.seq
                               (.region [] [] [6] false [
                                 (none, .asg 6 (.c (.bool true)) .copy)])
                               (.ret [6]))))))))))))))))))))))))))))))⟩
def tabl : List (Nat × PFunc) := [(116, F116), (209, F209), (326, F326), (276, F276), (821, F821), (799, F799), (208, F208), (256, F256), (273, F273), (308, F308), (811, F811), (266, F266), (31, F31), (27, F27), (792, F792), (85, F85), (393, F393), (391, F391), (392, F392), (405, F405), (408, F408), (410, F410), (407, F407), (414, F414), (412, F412), (413, F413), (419, F419), (417, F417), (418, F418), (678, F678), (771, F771), (766, F766), (774, F774), (764, F764), (605, F605), (609, F609), (612, F612), (613, F613), (533, F533), (772, F772), (767, F767), (775, F775), (517, F517), (340, F340)]
def T : Nat → Option PFunc := tabOf tabl
end Go.Vs.G
