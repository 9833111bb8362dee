/- The functions that the law reaches, in the small language, printed by program. No conditions. -/
import Derived.Test.YtmbjedkkombmjaaDXBestQuestion
import Derived.Test.YtmbjedkkombmjaaV4
set_option maxRecDepth 100000
open Go Go.Vs
namespace Go.Vs.G
def F116 : PFunc :=
 ⟨[false], [.tmp 2],
  (.seq
   (.region [] [] [0] false [
     (none, .asg 2 (.c (.bool false)) .copy)])
   (.seq
    (.seq
     (.region [] [] [0, 21] false [
       (none, .mv 4 (.v 0)),
       (none, .len 5 true (.v 4)),
       (none, .bin 6 .lss (.v 5) (.c (.int .i64 1))),
       (none, .mv 7 (.v 6)),
       (some (7, false), .mv 8 (.v 0)),
       (some (7, false), .len 9 true (.v 8)),
       (some (7, false), .bin 10 .gtr (.v 9) (.c (.int .i64 12))),
       (none, .pick 11 (.v 7) (.c (.bool true)) (.v 10)),
       (none, .mv 12 (.v 11)),
       (some (12, false), .mv 13 (.v 0)),
       (some (12, false), .idx 14 (.v 13) (.c (.int .i64 0))),
       (some (12, false), .bin 15 .lss (.v 14) (.c (.int .u8 97))),
       (none, .pick 16 (.v 12) (.c (.bool true)) (.v 15)),
       (none, .mv 17 (.v 16)),
       (some (17, false), .mv 18 (.v 0)),
       (some (17, false), .idx 19 (.v 18) (.c (.int .i64 0))),
       (some (17, false), .bin 20 .gtr (.v 19) (.c (.int .u8 122))),
       (none, .pick 21 (.v 17) (.c (.bool true)) (.v 20))])
     (.cond (.v 21)
      (.seq
       (.region [] [] [2] false [
         (none, .asg 2 (.c (.bool false)) .copy)])
       (.ret [2]))
      (.skip [0])))
    (.seq
     (.seq
      (.region [] [] [0, 3] false [
        (none, .asg 3 (.c (.int .i64 1)) .copy)])
      (.block 0
       (.loop
        (.seq
         (.seq
          (.region [] [] [0, 3, 25] false [
            (none, .mv 22 (.v 3)),
            (none, .mv 23 (.v 0)),
            (none, .len 24 true (.v 23)),
            (none, .bin 25 .lss (.v 22) (.v 24))])
          (.cond (.v 25)
           (.skip [0, 3])
           (.exit 0 [])))
         (.seq
          (.block 1
           (.seq
            (.region [] [] [0, 3, 55] false [
              (none, .mv 28 (.v 0)),
              (none, .mv 29 (.v 3)),
              (none, .idx 30 (.v 28) (.v 29)),
              (none, .bin 31 .lss (.v 30) (.c (.int .u8 97))),
              (none, .mv 32 (.v 31)),
              (some (32, false), .mv 33 (.v 0)),
              (some (32, false), .mv 34 (.v 3)),
              (some (32, false), .idx 35 (.v 33) (.v 34)),
              (some (32, false), .bin 36 .gtr (.v 35) (.c (.int .u8 122))),
              (none, .pick 37 (.v 32) (.c (.bool true)) (.v 36)),
              (none, .mv 38 (.v 37)),
              (some (38, true), .mv 39 (.v 0)),
              (some (38, true), .mv 40 (.v 3)),
              (some (38, true), .idx 41 (.v 39) (.v 40)),
              (some (38, true), .bin 42 .lss (.v 41) (.c (.int .u8 48))),
              (some (38, true), .mv 43 (.v 42)),
              (some (43, false), .mv 44 (.v 0)),
              (some (43, false), .mv 45 (.v 3)),
              (some (43, false), .idx 46 (.v 44) (.v 45)),
              (some (43, false), .bin 47 .gtr (.v 46) (.c (.int .u8 57))),
              (some (38, true), .pick 48 (.v 43) (.c (.bool true)) (.v 47)),
              (none, .pick 49 (.v 38) (.v 48) (.c (.bool false))),
              (none, .mv 50 (.v 49)),
              (some (50, true), .mv 51 (.v 0)),
              (some (50, true), .mv 52 (.v 3)),
              (some (50, true), .idx 53 (.v 51) (.v 52)),
              (some (50, true), .bin 54 .neq (.v 53) (.c (.int .u8 45))),
              (none, .pick 55 (.v 50) (.v 54) (.c (.bool false)))])
            (.cond (.v 55)
             (.seq
              (.region [] [] [2] false [
                (none, .asg 2 (.c (.bool false)) .copy)])
              (.ret [2]))
             (.skip [0, 3]))))
          (.region [] [] [0, 3] false [
            (none, .mv 26 (.v 3)),
            (none, .bin 27 .add (.v 26) (.c (.int .i64 1))),
            (none, .asg 3 (.v 27) .copy)]))))))
     (.seq
      (.region [] [] [2] false [
        (none, .asg 2 (.c (.bool true)) .copy)])
      (.ret [2])))))⟩
def F209 : PFunc :=
 ⟨[false, false], [.tmp 3],
  (.seq
   (.region [] [] [1, 2] false [
     (none, .box 2 (.v 0) .move),
     (none, .asg 3 (.c (.bool false)) .copy)])
   (.seq
    (.region [(6, 1, false), (4, 2, false)] [] [3] false [
      (none, .fadr 4 0 1 (.v 2)),
      (none, .load 5 false 1 (.v 4) none),
      (none, .fadr 6 0 1 (.v 1)),
      (none, .load 7 false 1 (.v 6) none),
      (none, .bin 8 .eql (.v 5) (.v 7)),
      (none, .asg 3 (.v 8) .copy)])
    (.ret [3])))⟩
def F326 : PFunc :=
 ⟨[false, false, false], [.tmp 6],
  (.seq
   (.region [] [] [0, 1, 2] false [
     (none, .asg 6 (.c (.bool false)) .copy)])
   (.seq
    (.region [] [] [6] false [
      (none, .mv 7 (.v 0)),
      (none, .mv 8 (.v 1)),
      (none, .bin 9 .geq (.v 7) (.v 8)),
      (none, .mv 10 (.v 9)),
      (some (10, true), .mv 11 (.v 0)),
      (some (10, true), .mv 12 (.v 2)),
      (some (10, true), .bin 13 .leq (.v 11) (.v 12)),
      (none, .pick 14 (.v 10) (.v 13) (.c (.bool false))),
      (none, .asg 6 (.v 14) .copy)])
    (.ret [6])))⟩
def F276 : PFunc :=
 ⟨[false, false], [.tmp 4],
  (.seq
   (.region [] [] [0, 1] false [
     (none, .asg 4 (.c (.bool false)) .copy)])
   (.seq
    (.seq
     (.region [(7, 0, false)] [] [0, 1, 7, 8, 9] false [
       (none, .mv 7 (.v 0)),
       (none, .len 8 false (.v 7)),
       (none, .mv 9 (.c (.int .i64 0)))])
     (.block 0
      (.loop
       (.seq
        (.region [(7, 0, false)] [] [0, 1, 7, 8, 9, 10] false [
          (none, .bin 10 .lss (.v 9) (.v 8))])
        (.seq
         (.cond (.v 10)
          (.skip [0, 1, 7, 8, 9])
          (.exit 0 []))
         (.seq
          (.block 1
           (.seq
            (.region [(12, 0, false), (7, 0, false)] [] [0, 1, 5, 6, 7, 8, 9] false [
              (none, .mv 11 (.v 9)),
              (none, .iadr 12 1 (.v 7) (.v 9)),
              (none, .load 13 false 1 (.v 12) none),
              (none, .asg 5 (.v 11) .copy),
              (none, .asg 6 (.v 13) .copy)])
            (.seq
             (.region [(26, 0, false), (23, 0, false), (7, 0, false)] [] [0, 1, 7, 8, 9, 31] false [
               (none, .mv 14 (.v 6)),
               (none, .mv 15 (.v 1)),
               (none, .bin 16 .sub (.v 15) (.c (.int .i64 1))),
               (none, .call (some 17) 326 false [((.v 14), false), ((.c (.int .i64 0)), false), ((.v 16), false)]),
               (none, .un 18 .not (.v 17)),
               (none, .mv 19 (.v 18)),
               (some (19, false), .mv 20 (.v 5)),
               (some (19, false), .bin 21 .gtr (.v 20) (.c (.int .i64 0))),
               (some (19, false), .mv 22 (.v 21)),
               (some (22, true), .mv 23 (.v 0)),
               (some (22, true), .mv 24 (.v 5)),
               (some (22, true), .bin 25 .sub (.v 24) (.c (.int .i64 1))),
               (some (22, true), .iadr 26 1 (.v 23) (.v 25)),
               (some (22, true), .load 27 false 1 (.v 26) none),
               (some (22, true), .mv 28 (.v 6)),
               (some (22, true), .bin 29 .geq (.v 27) (.v 28)),
               (some (19, false), .pick 30 (.v 22) (.v 29) (.c (.bool false))),
               (none, .pick 31 (.v 19) (.c (.bool true)) (.v 30))])
             (.cond (.v 31)
              (.seq
               (.region [] [] [4] false [
                 (none, .asg 4 (.c (.bool false)) .copy)])
               (.ret [4]))
              (.skip [0, 1, 7, 8, 9])))))
          (.region [(7, 0, false)] [] [0, 1, 7, 8, 9] false [
            (none, .bin 32 .add (.v 9) (.c (.int .i64 1))),
            (none, .mv 9 (.v 32))])))))))
    (.seq
     (.region [] [] [4] false [
       (none, .asg 4 (.c (.bool true)) .copy)])
     (.ret [4]))))⟩
def F821 : PFunc :=
 ⟨[false, false], [.tmp 4],
  (.seq
   (.region [] [] [0, 1] false [
     (none, .asg 4 (.c (.int .i64 0)) .copy)])
   (.seq
    (.seq
     (.region [(6, 0, false)] [] [0, 1, 7, 8] false [
       (none, .mv 6 (.v 0)),
       (none, .len 7 false (.v 6)),
       (none, .mv 8 (.c (.int .i64 0)))])
     (.block 0
      (.loop
       (.seq
        (.region [] [] [0, 1, 7, 8, 9] false [
          (none, .bin 9 .lss (.v 8) (.v 7))])
        (.seq
         (.cond (.v 9)
          (.skip [0, 1, 7, 8])
          (.exit 0 []))
         (.seq
          (.block 1
           (.seq
            (.region [] [] [0, 1, 5, 7, 8] false [
              (none, .mv 10 (.v 8)),
              (none, .asg 5 (.v 10) .copy)])
            (.seq
             (.region [(14, 0, false), (12, 0, false), (11, 1, false)] [] [0, 1, 5, 7, 8, 16] false [
               (none, .mv 11 (.v 1)),
               (none, .mv 12 (.v 0)),
               (none, .mv 13 (.v 5)),
               (none, .iadr 14 2 (.v 12) (.v 13)),
               (none, .load 15 true 2 (.v 14) (some .freeze)),
               (none, .callv (some 16) (.v 11) [(.v 15)])])
             (.cond (.v 16)
              (.seq
               (.region [] [] [4] false [
                 (none, .mv 17 (.v 5)),
                 (none, .asg 4 (.v 17) .copy)])
               (.ret [4]))
              (.skip [0, 1, 7, 8])))))
          (.region [] [] [0, 1, 7, 8] false [
            (none, .bin 18 .add (.v 8) (.c (.int .i64 1))),
            (none, .mv 8 (.v 18))])))))))
    (.seq
     (.region [] [] [4] false [
       (none, .asg 4 (.c (.int .i64 (-1))) .copy)])
     (.ret [4]))))⟩
def F799 : PFunc :=
 ⟨[false, false], [.tmp 4],
  (.seq
   (.region [] [] [0, 1] false [
     (none, .asg 4 (.c (.bool false)) .copy)])
   (.seq
    (.region [(6, 1, false), (5, 0, false)] [] [4] false [
      (none, .mv 5 (.v 0)),
      (none, .mv 6 (.v 1)),
      (none, .call (some 7) 821 false [((.v 5), false), ((.v 6), false)]),
      (none, .bin 8 .geq (.v 7) (.c (.int .i64 0))),
      (none, .asg 4 (.v 8) .copy)])
    (.ret [4])))⟩
def F208 : PFunc :=
 ⟨[false, false], [.tmp 4],
  (.seq
   (.region [] [6] [0, 1] false [
     (none, .asg 4 (.c (.bool false)) .copy)])
   (.seq
    (.seq
     (.region [(11, 1, false)] [6] [0, 1, 14] false [
       (none, .mv 7 (.v 0)),
       (none, .call (some 8) 326 false [((.v 7), false), ((.c (.int .i64 1)), false), ((.c (.int .i64 16)), false)]),
       (none, .un 9 .not (.v 8)),
       (none, .mv 10 (.v 9)),
       (some (10, false), .mv 11 (.v 1)),
       (some (10, false), .len 12 false (.v 11)),
       (some (10, false), .bin 13 .gtr (.v 12) (.c (.int .i64 10))),
       (none, .pick 14 (.v 10) (.c (.bool true)) (.v 13))])
     (.cond (.v 14)
      (.seq
       (.region [] [6] [4] false [
         (none, .asg 4 (.c (.bool false)) .copy)])
       (.ret [4]))
      (.skip [0, 1])))
    (.seq
     (.seq
      (.region [(15, 1, false)] [6] [0, 1, 15, 16, 17] false [
        (none, .mv 15 (.v 1)),
        (none, .len 16 false (.v 15)),
        (none, .mv 17 (.c (.int .i64 0)))])
      (.block 0
       (.loop
        (.seq
         (.region [(15, 1, false)] [6] [0, 1, 15, 16, 17, 18] false [
           (none, .bin 18 .lss (.v 17) (.v 16))])
         (.seq
          (.cond (.v 18)
           (.skip [0, 1, 15, 16, 17])
           (.exit 0 []))
          (.seq
           (.block 1
            (.seq
             (.region [(20, 1, false), (15, 1, false)] [] [0, 1, 5, 6, 15, 16, 17] false [
               (none, .mv 19 (.v 17)),
               (none, .iadr 20 2 (.v 15) (.v 17)),
               (none, .load 21 true 2 (.v 20) (some .freeze)),
               (none, .new 6 (.agg [(.str []), (.sl false 1 [])])),
               (none, .asg 5 (.v 19) .copy),
               (none, .store 2 (.v 6) (.v 21) .move)])
             (.seq
              (.region [(40, 1, false), (34, 6, true), (33, 6, false), (28, 6, true), (27, 6, false), (22, 6, false), (15, 1, false)] [6] [0, 1, 15, 16, 17, 45] false [
                (none, .fadr 22 0 1 (.v 6)),
                (none, .load 23 false 1 (.v 22) none),
                (none, .call (some 24) 116 false [((.v 23), false)]),
                (none, .un 25 .not (.v 24)),
                (none, .mv 26 (.v 25)),
                (some (26, false), .fadr 27 1 1 (.v 6)),
                (some (26, false), .load 28 false 1 (.v 27) none),
                (some (26, false), .len 29 false (.v 28)),
                (some (26, false), .bin 30 .eql (.v 29) (.c (.int .i64 0))),
                (none, .pick 31 (.v 26) (.c (.bool true)) (.v 30)),
                (none, .mv 32 (.v 31)),
                (some (32, false), .fadr 33 1 1 (.v 6)),
                (some (32, false), .load 34 false 1 (.v 33) none),
                (some (32, false), .mv 35 (.v 0)),
                (some (32, false), .call (some 36) 276 false [((.v 34), false), ((.v 35), false)]),
                (some (32, false), .un 37 .not (.v 36)),
                (none, .pick 38 (.v 32) (.c (.bool true)) (.v 37)),
                (none, .mv 39 (.v 38)),
                (some (39, false), .mv 40 (.v 1)),
                (some (39, false), .mv 41 (.v 5)),
                (some (39, false), .slc 42 false 2 (.v 40) none (some (.v 41)) .freeze),
                (some (39, false), .mkfn 43 209 [6]),
                (some (39, false), .call (some 44) 799 false [((.v 42), false), ((.v 43), false)]),
                (none, .pick 45 (.v 39) (.c (.bool true)) (.v 44))])
              (.cond (.v 45)
               (.seq
                (.region [] [6] [4] false [
                  (none, .asg 4 (.c (.bool false)) .copy)])
                (.ret [4]))
               (.skip [0, 1, 15, 16, 17])))))
           (.region [(15, 1, false)] [6] [0, 1, 15, 16, 17] false [
             (none, .bin 46 .add (.v 17) (.c (.int .i64 1))),
             (none, .mv 17 (.v 46))])))))))
     (.seq
      (.region [] [6] [4] false [
        (none, .asg 4 (.c (.bool true)) .copy)])
      (.ret [4])))))⟩
def F256 : PFunc :=
 ⟨[false, false, false, false], [.tmp 8],
  (.seq
   (.region [] [] [0, 1, 2, 3] false [
     (none, .asg 8 (.c (.int .i64 0)) .copy)])
   (.seq
    (.block 0
     (.seq
      (.region [(11, 1, false)] [] [0, 1, 2, 3, 9] false [
        (none, .mv 10 (.v 0)),
        (none, .mv 11 (.v 1)),
        (none, .call (some 12) 208 false [((.v 10), false), ((.v 11), false)]),
        (none, .un 13 .not (.v 12)),
        (none, .asg 9 (.v 13) .copy)])
      (.cond (.v 9)
       (.seq
        (.region [] [] [8] false [
          (none, .asg 8 (.c (.int .i64 1)) .copy)])
        (.ret [8]))
       (.seq
        (.region [(21, 3, false), (16, 1, false), (15, 2, false)] [] [14] false [
          (none, .mv 15 (.v 2)),
          (none, .mv 16 (.v 1)),
          (none, .len 17 false (.v 16)),
          (none, .call (some 18) 276 false [((.v 15), false), ((.v 17), false)]),
          (none, .un 19 .not (.v 18)),
          (none, .mv 20 (.v 19)),
          (some (20, false), .mv 21 (.v 3)),
          (some (20, false), .mv 22 (.v 0)),
          (some (20, false), .call (some 23) 276 false [((.v 21), false), ((.v 22), false)]),
          (some (20, false), .un 24 .not (.v 23)),
          (none, .pick 25 (.v 20) (.c (.bool true)) (.v 24)),
          (none, .asg 14 (.v 25) .copy)])
        (.cond (.v 14)
         (.seq
          (.region [] [] [8] false [
            (none, .asg 8 (.c (.int .i64 2)) .copy)])
          (.ret [8]))
         (.skip []))))))
    (.seq
     (.region [] [] [8] false [
       (none, .asg 8 (.c (.int .i64 0)) .copy)])
     (.ret [8]))))⟩
def F273 : PFunc :=
 ⟨[false], [.tmp 2],
  (.seq
   (.region [] [] [0] false [
     (none, .asg 2 (.c (.sl true 1 [])) .copy)])
   (.seq
    (.region [] [] [0, 3] false [
      (none, .mksl 5 1 (.int .i64 0) 0 []),
      (none, .asg 3 (.v 5) .move)])
    (.seq
     (.seq
      (.region [] [] [0, 3, 4] false [
        (none, .asg 4 (.c (.int .i64 0)) .copy)])
      (.block 0
       (.loop
        (.seq
         (.seq
          (.region [] [] [0, 3, 4, 10] false [
            (none, .mv 6 (.v 0)),
            (none, .mv 7 (.v 4)),
            (none, .conv 8 .u64 (.v 7)),
            (none, .bin 9 .shr (.v 6) (.v 8)),
            (none, .bin 10 .gtr (.v 9) (.c (.int .i64 0)))])
          (.cond (.v 10)
           (.skip [0, 3, 4])
           (.exit 0 [3])))
         (.seq
          (.block 1
           (.seq
            (.region [] [] [0, 3, 4, 18] false [
              (none, .mv 13 (.v 0)),
              (none, .mv 14 (.v 4)),
              (none, .conv 15 .u64 (.v 14)),
              (none, .bin 16 .shr (.v 13) (.v 15)),
              (none, .bin 17 .and (.v 16) (.c (.int .i64 1))),
              (none, .bin 18 .eql (.v 17) (.c (.int .i64 1)))])
            (.cond (.v 18)
             (.region [(19, 3, false)] [] [0, 3, 4] false [
               (none, .mv 19 (.v 3)),
               (none, .mv 20 (.v 4)),
               (none, .mksl 21 1 (.int .i64 0) 1 [(0, (.v 20), .copy)]),
               (none, .app 22 1 (.v 19) (.v 21) .move),
               (none, .asg 3 (.v 22) .move)])
             (.skip [0, 3, 4]))))
          (.region [] [] [0, 3, 4] false [
            (none, .mv 11 (.v 4)),
            (none, .bin 12 .add (.v 11) (.c (.int .i64 1))),
            (none, .asg 4 (.v 12) .copy)]))))))
     (.seq
      (.region [(23, 3, false)] [] [2] false [
        (none, .mv 23 (.v 3)),
        (none, .asg 2 (.v 23) .move)])
      (.ret [2])))))⟩
def F308 : PFunc :=
 ⟨[false, false], [.tmp 4],
  (.seq
   (.region [] [] [0, 1] false [
     (none, .asg 4 (.c (.sl true 1 [])) .copy)])
   (.seq
    (.region [] [] [0, 1, 5] false [
      (none, .mksl 8 1 (.int .i64 0) 0 []),
      (none, .asg 5 (.v 8) .move)])
    (.seq
     (.seq
      (.region [(9, 1, false)] [] [0, 1, 5, 9, 10, 11] false [
        (none, .mv 9 (.v 1)),
        (none, .len 10 false (.v 9)),
        (none, .mv 11 (.c (.int .i64 0)))])
      (.block 0
       (.loop
        (.seq
         (.region [(9, 1, false)] [] [0, 1, 5, 9, 10, 11, 12] false [
           (none, .bin 12 .lss (.v 11) (.v 10))])
         (.seq
          (.cond (.v 12)
           (.skip [0, 1, 5, 9, 10, 11])
           (.exit 0 [5]))
          (.seq
           (.block 1
            (.seq
             (.region [(13, 1, false), (9, 1, false)] [] [0, 1, 5, 7, 9, 10, 11] false [
               (none, .iadr 13 1 (.v 9) (.v 11)),
               (none, .load 14 false 1 (.v 13) none),
               (none, .asg 7 (.v 14) .copy)])
             (.region [(20, 0, true), (19, 0, false), (18, 0, false), (16, 0, false), (15, 5, false), (9, 1, false)] [] [0, 1, 5, 9, 10, 11] false [
               (none, .mv 15 (.v 5)),
               (none, .mv 16 (.v 0)),
               (none, .mv 17 (.v 7)),
               (none, .iadr 18 2 (.v 16) (.v 17)),
               (none, .fadr 19 1 1 (.v 18)),
               (none, .load 20 false 1 (.v 19) none),
               (none, .app 21 1 (.v 15) (.v 20) .freeze),
               (none, .asg 5 (.v 21) .move)])))
           (.region [(9, 1, false)] [] [0, 1, 5, 9, 10, 11] false [
             (none, .bin 22 .add (.v 11) (.c (.int .i64 1))),
             (none, .mv 11 (.v 22))])))))))
     (.seq
      (.region [(23, 5, false)] [] [5] false [
        (none, .mv 23 (.v 5)),
        (none, .call (some 24) 836 false [((.v 23), true)])])
      (.seq
       (.region [(25, 5, false)] [] [4] false [
         (none, .mv 25 (.v 5)),
         (none, .call (some 26) 791 false [((.v 25), true)]),
         (none, .asg 4 (.v 26) .move)])
       (.ret [4]))))))⟩
def F811 : PFunc :=
 ⟨[false, false], [.tmp 4],
  (.seq
   (.region [] [] [0, 1] false [
     (none, .asg 4 (.c (.bool false)) .copy)])
   (.seq
    (.seq
     (.region [(8, 1, false), (6, 0, false)] [] [0, 1, 10] false [
       (none, .mv 6 (.v 0)),
       (none, .len 7 false (.v 6)),
       (none, .mv 8 (.v 1)),
       (none, .len 9 false (.v 8)),
       (none, .bin 10 .neq (.v 7) (.v 9))])
     (.cond (.v 10)
      (.seq
       (.region [] [] [4] false [
         (none, .asg 4 (.c (.bool false)) .copy)])
       (.ret [4]))
      (.skip [0, 1])))
    (.seq
     (.seq
      (.region [(11, 0, false)] [] [0, 1, 12, 13] false [
        (none, .mv 11 (.v 0)),
        (none, .len 12 false (.v 11)),
        (none, .mv 13 (.c (.int .i64 0)))])
      (.block 0
       (.loop
        (.seq
         (.region [] [] [0, 1, 12, 13, 14] false [
           (none, .bin 14 .lss (.v 13) (.v 12))])
         (.seq
          (.cond (.v 14)
           (.skip [0, 1, 12, 13])
           (.exit 0 []))
          (.seq
           (.block 1
            (.seq
             (.region [] [] [0, 1, 5, 12, 13] false [
               (none, .mv 15 (.v 13)),
               (none, .asg 5 (.v 15) .copy)])
             (.seq
              (.region [(22, 1, false), (20, 1, false), (18, 0, false), (16, 0, false)] [] [0, 1, 12, 13, 24] true [
                (none, .mv 16 (.v 0)),
                (none, .mv 17 (.v 5)),
                (none, .iadr 18 1 (.v 16) (.v 17)),
                (none, .load 19 false 1 (.v 18) none),
                (none, .mv 20 (.v 1)),
                (none, .mv 21 (.v 5)),
                (none, .iadr 22 1 (.v 20) (.v 21)),
                (none, .load 23 false 1 (.v 22) none),
                (none, .bin 24 .neq (.v 19) (.v 23))])
              (.cond (.v 24)
               (.seq
                (.region [] [] [4] false [
                  (none, .asg 4 (.c (.bool false)) .copy)])
                (.ret [4]))
               (.skip [0, 1, 12, 13])))))
           (.region [] [] [0, 1, 12, 13] false [
             (none, .bin 25 .add (.v 13) (.c (.int .i64 1))),
             (none, .mv 13 (.v 25))])))))))
     (.seq
      (.region [] [] [4] false [
        (none, .asg 4 (.c (.bool true)) .copy)])
      (.ret [4])))))⟩
def F266 : PFunc :=
 ⟨[false, false], [.tmp 4],
  (.seq
   (.region [] [] [0, 1] false [
     (none, .asg 4 (.c (.sl true 1 [])) .copy)])
   (.seq
    (.region [] [] [0, 1, 5] false [
      (none, .mksl 8 1 (.sl true 1 []) 0 []),
      (none, .asg 5 (.v 8) .move)])
    (.seq
     (.seq
      (.region [(9, 0, false)] [] [0, 1, 5, 12, 13] false [
        (none, .mv 9 (.v 0)),
        (none, .len 10 false (.v 9)),
        (none, .conv 11 .u64 (.v 10)),
        (none, .bin 12 .shl (.c (.int .i64 1)) (.v 11)),
        (none, .mv 13 (.c (.int .i64 0)))])
      (.block 0
       (.loop
        (.seq
         (.region [] [] [0, 1, 5, 12, 13, 14] false [
           (none, .bin 14 .lss (.v 13) (.v 12))])
         (.seq
          (.cond (.v 14)
           (.skip [0, 1, 5, 12, 13])
           (.exit 0 [5]))
          (.seq
           (.block 1
            (.seq
             (.region [] [] [0, 1, 5, 6, 12, 13] false [
               (none, .mv 15 (.v 13)),
               (none, .asg 6 (.v 15) .copy)])
             (.seq
              (.region [] [] [0, 1, 5, 7, 12, 13] false [
                (none, .mv 16 (.v 6)),
                (none, .call (some 17) 273 false [((.v 16), false)]),
                (none, .asg 7 (.v 17) .move)])
              (.seq
               (.region [(21, 1, false), (19, 7, false), (18, 0, false)] [] [0, 1, 5, 7, 12, 13, 22] false [
                 (none, .mv 18 (.v 0)),
                 (none, .mv 19 (.v 7)),
                 (none, .call (some 20) 308 false [((.v 18), false), ((.v 19), false)]),
                 (none, .mv 21 (.v 1)),
                 (none, .call (some 22) 811 false [((.v 20), false), ((.v 21), false)])])
               (.cond (.v 22)
                (.region [(24, 7, false), (23, 5, false)] [] [0, 1, 5, 12, 13] false [
                  (none, .mv 23 (.v 5)),
                  (none, .mv 24 (.v 7)),
                  (none, .mksl 25 1 (.sl true 1 []) 1 [(0, (.v 24), .move)]),
                  (none, .app 26 1 (.v 23) (.v 25) .move),
                  (none, .asg 5 (.v 26) .move)])
                (.skip [0, 1, 5, 12, 13]))))))
           (.region [] [] [0, 1, 5, 12, 13] false [
             (none, .bin 27 .add (.v 13) (.c (.int .i64 1))),
             (none, .mv 13 (.v 27))])))))))
     (.seq
      (.region [(28, 5, false)] [] [4] false [
        (none, .mv 28 (.v 5)),
        (none, .asg 4 (.v 28) .move)])
      (.ret [4])))))⟩
def F305 : PFunc :=
 ⟨[false, false], [.tmp 4],
  (.seq
   (.region [] [] [0, 1] false [
     (none, .asg 4 (.c (.sl true 1 [])) .copy)])
   (.seq
    (.region [(10, 0, false)] [] [1, 5] false [
      (none, .mv 10 (.v 0)),
      (none, .len 11 false (.v 10)),
      (none, .make 12 1 (.int .i64 0) (.v 11)),
      (none, .asg 5 (.v 12) .move)])
    (.seq
     (.seq
      (.region [(13, 1, false)] [] [1, 5, 13, 14, 15] false [
        (none, .mv 13 (.v 1)),
        (none, .len 14 false (.v 13)),
        (none, .mv 15 (.c (.int .i64 0)))])
      (.block 0
       (.loop
        (.seq
         (.region [(13, 1, false)] [] [1, 5, 13, 14, 15, 16] false [
           (none, .bin 16 .lss (.v 15) (.v 14))])
         (.seq
          (.cond (.v 16)
           (.skip [1, 5, 13, 14, 15])
           (.exit 0 [5]))
          (.seq
           (.block 1
            (.seq
             (.region [(18, 1, true), (17, 1, false), (13, 1, false)] [] [1, 5, 7, 13, 14, 15] false [
               (none, .iadr 17 1 (.v 13) (.v 15)),
               (none, .load 18 false 1 (.v 17) none),
               (none, .asg 7 (.v 18) .freeze)])
             (.seq
              (.region [(19, 7, false), (13, 1, false)] [] [1, 5, 7, 13, 14, 15, 19, 20, 21] false [
                (none, .mv 19 (.v 7)),
                (none, .len 20 false (.v 19)),
                (none, .mv 21 (.c (.int .i64 0)))])
              (.block 2
               (.loop
                (.seq
                 (.region [(13, 1, false), (19, 7, false)] [] [1, 5, 7, 13, 14, 15, 19, 20, 21, 22] false [
                   (none, .bin 22 .lss (.v 21) (.v 20))])
                 (.seq
                  (.cond (.v 22)
                   (.skip [1, 5, 7, 13, 14, 15, 19, 20, 21])
                   (.exit 2 [1, 5, 13, 14, 15]))
                  (.seq
                   (.block 3
                    (.seq
                     (.region [(23, 7, false), (13, 1, false), (19, 7, false)] [] [1, 5, 7, 9, 13, 14, 15, 19, 20, 21] false [
                       (none, .iadr 23 1 (.v 19) (.v 21)),
                       (none, .load 24 false 1 (.v 23) none),
                       (none, .asg 9 (.v 24) .copy)])
                     (.region [(30, 5, false), (27, 5, false), (25, 5, false), (13, 1, false), (19, 7, false)] [] [1, 5, 7, 13, 14, 15, 19, 20, 21] false [
                       (none, .mv 25 (.v 5)),
                       (none, .mv 26 (.v 9)),
                       (none, .iadr 27 1 (.v 25) (.v 26)),
                       (none, .load 28 false 1 (.v 27) none),
                       (none, .bin 29 .add (.v 28) (.c (.int .i64 1))),
                       (none, .iadr 30 1 (.v 25) (.v 26)),
                       (none, .store 1 (.v 30) (.v 29) .copy)])))
                   (.region [(13, 1, false), (19, 7, false)] [] [1, 5, 7, 13, 14, 15, 19, 20, 21] false [
                     (none, .bin 31 .add (.v 21) (.c (.int .i64 1))),
                     (none, .mv 21 (.v 31))])))))))))
           (.region [(13, 1, false)] [] [1, 5, 13, 14, 15] false [
             (none, .bin 32 .add (.v 15) (.c (.int .i64 1))),
             (none, .mv 15 (.v 32))])))))))
     (.seq
      (.region [(33, 5, false)] [] [4] false [
        (none, .mv 33 (.v 5)),
        (none, .asg 4 (.v 33) .move)])
      (.ret [4])))))⟩
def F53 : PFunc :=
 ⟨[false, false, false], [.tmp 6, .tmp 7],
  (.seq
   (.region [] [] [0, 1, 2] false [
     (none, .asg 6 (.c (.int .i64 0)) .copy),
     (none, .asg 7 (.c (.int .i64 0)) .copy)])
   (.seq
    (.seq
     (.region [(17, 2, false), (16, 1, false)] [] [1, 2, 8] false [
       (none, .mv 15 (.v 0)),
       (none, .mv 16 (.v 1)),
       (none, .mv 17 (.v 2)),
       (none, .call (some 18) 256 false [((.v 15), false), ((.v 16), false), ((.c (.sl false 1 [])), false), ((.v 17), false)]),
       (none, .asg 8 (.v 18) .copy)])
     (.seq
      (.region [] [] [1, 2, 8, 20] false [
        (none, .mv 19 (.v 8)),
        (none, .bin 20 .neq (.v 19) (.c (.int .i64 0)))])
      (.cond (.v 20)
       (.seq
        (.region [] [] [6, 7] false [
          (none, .mv 21 (.v 8)),
          (none, .asg 6 (.c (.int .i64 0)) .copy),
          (none, .asg 7 (.v 21) .copy)])
        (.ret [6, 7]))
       (.skip [1, 2]))))
    (.seq
     (.region [(23, 2, false), (22, 1, false)] [] [1, 9] false [
       (none, .mv 22 (.v 1)),
       (none, .mv 23 (.v 2)),
       (none, .call (some 24) 266 false [((.v 22), false), ((.v 23), false)]),
       (none, .asg 9 (.v 24) .move)])
     (.seq
      (.seq
       (.region [(25, 9, false)] [] [1, 9, 27] false [
         (none, .mv 25 (.v 9)),
         (none, .len 26 false (.v 25)),
         (none, .bin 27 .eql (.v 26) (.c (.int .i64 0)))])
       (.cond (.v 27)
        (.seq
         (.region [] [] [6, 7] false [
           (none, .asg 6 (.c (.int .i64 0)) .copy),
           (none, .asg 7 (.c (.int .i64 3)) .copy)])
         (.ret [6, 7]))
        (.skip [1, 9])))
      (.seq
       (.region [(28, 9, false)] [] [1, 9, 10, 11] false [
         (none, .mv 28 (.v 9)),
         (none, .len 29 false (.v 28)),
         (none, .asg 10 (.c (.int .i64 0)) .copy),
         (none, .asg 11 (.v 29) .copy)])
       (.seq
        (.seq
         (.region [(31, 9, false), (30, 1, false)] [] [9, 10, 11, 32, 33, 34] false [
           (none, .mv 30 (.v 1)),
           (none, .mv 31 (.v 9)),
           (none, .call (some 32) 305 false [((.v 30), false), ((.v 31), false)]),
           (none, .len 33 false (.v 32)),
           (none, .mv 34 (.c (.int .i64 0)))])
         (.block 0
          (.loop
           (.seq
            (.region [] [] [9, 10, 11, 32, 33, 34, 35] false [
              (none, .bin 35 .lss (.v 34) (.v 33))])
            (.seq
             (.cond (.v 35)
              (.skip [9, 10, 11, 32, 33, 34])
              (.exit 0 [9, 10, 11]))
             (.seq
              (.block 1
               (.seq
                (.region [(37, 32, false)] [] [9, 10, 11, 12, 13, 32, 33, 34] false [
                  (none, .mv 36 (.v 34)),
                  (none, .iadr 37 1 (.v 32) (.v 34)),
                  (none, .load 38 false 1 (.v 37) none),
                  (none, .asg 12 (.v 36) .copy),
                  (none, .asg 13 (.v 38) .copy)])
                (.seq
                 (.region [(40, 9, false)] [] [9, 10, 11, 12, 14, 32, 33, 34] false [
                   (none, .mv 39 (.v 13)),
                   (none, .mv 40 (.v 9)),
                   (none, .len 41 false (.v 40)),
                   (none, .mv 42 (.v 13)),
                   (none, .bin 43 .sub (.v 41) (.v 42)),
                   (none, .mm 44 true (.v 39) [(.v 43)]),
                   (none, .asg 14 (.v 44) .copy)])
                 (.seq
                  (.region [] [] [9, 10, 11, 12, 14, 32, 33, 34, 47] false [
                    (none, .mv 45 (.v 14)),
                    (none, .mv 46 (.v 11)),
                    (none, .bin 47 .lss (.v 45) (.v 46))])
                  (.cond (.v 47)
                   (.region [] [] [9, 10, 11, 32, 33, 34] false [
                     (none, .mv 48 (.v 12)),
                     (none, .mv 49 (.v 14)),
                     (none, .asg 10 (.v 48) .copy),
                     (none, .asg 11 (.v 49) .copy)])
                   (.skip [9, 10, 11, 32, 33, 34]))))))
              (.region [] [] [9, 10, 11, 32, 33, 34] false [
                (none, .bin 50 .add (.v 34) (.c (.int .i64 1))),
                (none, .mv 34 (.v 50))])))))))
        (.seq
         (.seq
          (.region [(52, 9, false)] [] [10, 54] false [
            (none, .mv 51 (.v 11)),
            (none, .mv 52 (.v 9)),
            (none, .len 53 false (.v 52)),
            (none, .bin 54 .eql (.v 51) (.v 53))])
          (.cond (.v 54)
           (.seq
            (.region [] [] [6, 7] false [
              (none, .asg 6 (.c (.int .i64 0)) .copy),
              (none, .asg 7 (.c (.int .i64 6)) .copy)])
            (.ret [6, 7]))
           (.skip [10])))
         (.seq
          (.region [] [] [6, 7] false [
            (none, .mv 55 (.v 10)),
            (none, .asg 6 (.v 55) .copy),
            (none, .asg 7 (.c (.int .i64 0)) .copy)])
          (.ret [6, 7])))))))))⟩
def F393 : PFunc :=
 ⟨[false, false], [.tmp 4],
  (.seq
   (.region [] [] [0, 1] false [
     (none, .asg 4 (.c (.bool false)) .copy)])
   (.seq
    (.seq
     (.region [(8, 1, false), (6, 0, false)] [] [0, 1, 10] false [
       (none, .mv 6 (.v 0)),
       (none, .len 7 false (.v 6)),
       (none, .mv 8 (.v 1)),
       (none, .len 9 false (.v 8)),
       (none, .bin 10 .neq (.v 7) (.v 9))])
     (.cond (.v 10)
      (.seq
       (.region [] [] [4] false [
         (none, .asg 4 (.c (.bool false)) .copy)])
       (.ret [4]))
      (.skip [0, 1])))
    (.seq
     (.seq
      (.region [] [] [0, 1, 5] false [
        (none, .asg 5 (.c (.int .i64 0)) .copy)])
      (.block 0
       (.loop
        (.seq
         (.seq
          (.region [(12, 0, false)] [] [0, 1, 5, 14] false [
            (none, .mv 11 (.v 5)),
            (none, .mv 12 (.v 0)),
            (none, .len 13 false (.v 12)),
            (none, .bin 14 .lss (.v 11) (.v 13))])
          (.cond (.v 14)
           (.skip [0, 1, 5])
           (.exit 0 [])))
         (.seq
          (.block 1
           (.seq
            (.region [(23, 1, false), (21, 1, false), (19, 0, false), (17, 0, false)] [] [0, 1, 5, 25] true [
              (none, .mv 17 (.v 0)),
              (none, .mv 18 (.v 5)),
              (none, .iadr 19 1 (.v 17) (.v 18)),
              (none, .load 20 false 1 (.v 19) none),
              (none, .mv 21 (.v 1)),
              (none, .mv 22 (.v 5)),
              (none, .iadr 23 1 (.v 21) (.v 22)),
              (none, .load 24 false 1 (.v 23) none),
              (none, .bin 25 .neq (.v 20) (.v 24))])
            (.cond (.v 25)
             (.seq
              (.region [] [] [4] false [
                (none, .asg 4 (.c (.bool false)) .copy)])
              (.ret [4]))
             (.skip [0, 1, 5]))))
          (.region [] [] [0, 1, 5] false [
            (none, .mv 15 (.v 5)),
            (none, .bin 16 .add (.v 15) (.c (.int .i64 1))),
            (none, .asg 5 (.v 16) .copy)]))))))
     (.seq
      (.region [] [] [4] false [
        (none, .asg 4 (.c (.bool true)) .copy)])
      (.ret [4])))))⟩
def F391 : PFunc :=
 ⟨[false, false], [.tmp 4],
  (.seq
   (.region [] [] [2, 3] false [
     (none, .box 2 (.v 0) .move),
     (none, .box 3 (.v 1) .move),
     (none, .asg 4 (.c (.bool false)) .copy)])
   (.seq
    (.seq
     (.region [(7, 3, false), (5, 2, false)] [] [2, 3, 9] false [
       (none, .fadr 5 0 1 (.v 2)),
       (none, .load 6 false 1 (.v 5) none),
       (none, .fadr 7 0 1 (.v 3)),
       (none, .load 8 false 1 (.v 7) none),
       (none, .bin 9 .neq (.v 6) (.v 8))])
     (.cond (.v 9)
      (.seq
       (.region [] [] [4] false [
         (none, .asg 4 (.c (.bool false)) .copy)])
       (.ret [4]))
      (.skip [2, 3])))
    (.seq
     (.seq
      (.region [(13, 3, true), (12, 3, false), (11, 2, true), (10, 2, false)] [] [15] false [
        (none, .fadr 10 1 1 (.v 2)),
        (none, .load 11 false 1 (.v 10) none),
        (none, .fadr 12 1 1 (.v 3)),
        (none, .load 13 false 1 (.v 12) none),
        (none, .call (some 14) 393 false [((.v 11), false), ((.v 13), false)]),
        (none, .un 15 .not (.v 14))])
      (.cond (.v 15)
       (.seq
        (.region [] [] [4] false [
          (none, .asg 4 (.c (.bool false)) .copy)])
        (.ret [4]))
       (.skip [])))
     (.seq
      (.region [] [] [4] false [
        (none, .asg 4 (.c (.bool true)) .copy)])
      (.ret [4])))))⟩
def F392 : PFunc :=
 ⟨[false, false], [.tmp 4],
  (.seq
   (.region [] [] [0, 1] false [
     (none, .asg 4 (.c (.bool false)) .copy)])
   (.seq
    (.seq
     (.region [(8, 1, false), (6, 0, false)] [] [0, 1, 10] false [
       (none, .mv 6 (.v 0)),
       (none, .len 7 false (.v 6)),
       (none, .mv 8 (.v 1)),
       (none, .len 9 false (.v 8)),
       (none, .bin 10 .neq (.v 7) (.v 9))])
     (.cond (.v 10)
      (.seq
       (.region [] [] [4] false [
         (none, .asg 4 (.c (.bool false)) .copy)])
       (.ret [4]))
      (.skip [0, 1])))
    (.seq
     (.seq
      (.region [] [] [0, 1, 5] false [
        (none, .asg 5 (.c (.int .i64 0)) .copy)])
      (.block 0
       (.loop
        (.seq
         (.seq
          (.region [(12, 0, false)] [] [0, 1, 5, 14] false [
            (none, .mv 11 (.v 5)),
            (none, .mv 12 (.v 0)),
            (none, .len 13 false (.v 12)),
            (none, .bin 14 .lss (.v 11) (.v 13))])
          (.cond (.v 14)
           (.skip [0, 1, 5])
           (.exit 0 [])))
         (.seq
          (.block 1
           (.seq
            (.region [(23, 1, false), (21, 1, false), (19, 0, false), (17, 0, false)] [] [0, 1, 5, 26] true [
              (none, .mv 17 (.v 0)),
              (none, .mv 18 (.v 5)),
              (none, .iadr 19 2 (.v 17) (.v 18)),
              (none, .load 20 true 2 (.v 19) (some .freeze)),
              (none, .mv 21 (.v 1)),
              (none, .mv 22 (.v 5)),
              (none, .iadr 23 2 (.v 21) (.v 22)),
              (none, .load 24 true 2 (.v 23) (some .freeze)),
              (none, .call (some 25) 391 false [((.v 20), false), ((.v 24), false)]),
              (none, .un 26 .not (.v 25))])
            (.cond (.v 26)
             (.seq
              (.region [] [] [4] false [
                (none, .asg 4 (.c (.bool false)) .copy)])
              (.ret [4]))
             (.skip [0, 1, 5]))))
          (.region [] [] [0, 1, 5] false [
            (none, .mv 15 (.v 5)),
            (none, .bin 16 .add (.v 15) (.c (.int .i64 1))),
            (none, .asg 5 (.v 16) .copy)]))))))
     (.seq
      (.region [] [] [4] false [
        (none, .asg 4 (.c (.bool true)) .copy)])
      (.ret [4])))))⟩
def F414 : PFunc :=
 ⟨[false, false], [.tmp 4],
  (.seq
   (.region [] [] [0, 1] false [
     (none, .asg 4 (.c (.int .i64 0)) .copy)])
   (.seq
    (.region [(6, 0, false)] [] [1] false [
      (none, .mv 5 (.v 1)),
      (none, .mv 6 (.v 0)),
      (none, .len 7 false (.v 6)),
      (none, .bin 8 .sub (.v 5) (.v 7)),
      (none, .asg 1 (.v 8) .copy)])
    (.seq
     (.seq
      (.region [] [] [1, 10] false [
        (none, .mv 9 (.v 1)),
        (none, .bin 10 .lss (.v 9) (.c (.int .i64 0)))])
      (.cond (.v 10)
       (.seq
        (.region [] [] [4] false [
          (none, .asg 4 (.c (.int .i64 (-1))) .copy)])
        (.ret [4]))
       (.skip [1])))
     (.seq
      (.region [] [] [4] false [
        (none, .mv 11 (.v 1)),
        (none, .asg 4 (.v 11) .copy)])
      (.ret [4])))))⟩
def F412 : PFunc :=
 ⟨[false, false], [.tmp 4],
  (.seq
   (.region [] [] [1, 2] false [
     (none, .box 2 (.v 0) .move),
     (none, .asg 4 (.c (.int .i64 0)) .copy)])
   (.seq
    (.region [(6, 2, false)] [] [1, 2] false [
      (none, .mv 5 (.v 1)),
      (none, .fadr 6 0 1 (.v 2)),
      (none, .load 7 false 1 (.v 6) none),
      (none, .len 8 true (.v 7)),
      (none, .bin 9 .sub (.v 5) (.v 8)),
      (none, .asg 1 (.v 9) .copy)])
    (.seq
     (.seq
      (.region [] [] [1, 2, 11] false [
        (none, .mv 10 (.v 1)),
        (none, .bin 11 .lss (.v 10) (.c (.int .i64 0)))])
      (.cond (.v 11)
       (.seq
        (.region [] [] [4] false [
          (none, .asg 4 (.c (.int .i64 (-1))) .copy)])
        (.ret [4]))
       (.skip [1, 2])))
     (.seq
      (.region [(13, 2, true), (12, 2, false)] [] [1] false [
        (none, .fadr 12 1 1 (.v 2)),
        (none, .load 13 false 1 (.v 12) none),
        (none, .mv 14 (.v 1)),
        (none, .call (some 15) 414 false [((.v 13), false), ((.v 14), false)]),
        (none, .asg 1 (.v 15) .copy)])
      (.seq
       (.seq
        (.region [] [] [1, 17] false [
          (none, .mv 16 (.v 1)),
          (none, .bin 17 .lss (.v 16) (.c (.int .i64 0)))])
        (.cond (.v 17)
         (.seq
          (.region [] [] [4] false [
            (none, .asg 4 (.c (.int .i64 (-1))) .copy)])
          (.ret [4]))
         (.skip [1])))
       (.seq
        (.region [] [] [4] false [
          (none, .mv 18 (.v 1)),
          (none, .asg 4 (.v 18) .copy)])
        (.ret [4])))))))⟩
def F413 : PFunc :=
 ⟨[false, false], [.tmp 4],
  (.seq
   (.region [] [] [0, 1] false [
     (none, .asg 4 (.c (.int .i64 0)) .copy)])
   (.seq
    (.region [(7, 0, false)] [] [0, 1] false [
      (none, .mv 6 (.v 1)),
      (none, .mv 7 (.v 0)),
      (none, .len 8 false (.v 7)),
      (none, .bin 9 .sub (.v 6) (.v 8)),
      (none, .asg 1 (.v 9) .copy)])
    (.seq
     (.seq
      (.region [] [] [0, 1, 11] false [
        (none, .mv 10 (.v 1)),
        (none, .bin 11 .lss (.v 10) (.c (.int .i64 0)))])
      (.cond (.v 11)
       (.seq
        (.region [] [] [4] false [
          (none, .asg 4 (.c (.int .i64 (-1))) .copy)])
        (.ret [4]))
       (.skip [0, 1])))
     (.seq
      (.seq
       (.region [] [] [0, 1, 5] false [
         (none, .asg 5 (.c (.int .i64 0)) .copy)])
       (.block 0
        (.loop
         (.seq
          (.seq
           (.region [(13, 0, false)] [] [0, 1, 5, 15] false [
             (none, .mv 12 (.v 5)),
             (none, .mv 13 (.v 0)),
             (none, .len 14 false (.v 13)),
             (none, .bin 15 .lss (.v 12) (.v 14))])
           (.cond (.v 15)
            (.skip [0, 1, 5])
            (.exit 0 [1])))
          (.seq
           (.block 1
            (.seq
             (.region [(20, 0, false), (18, 0, false)] [] [0, 1, 5] false [
               (none, .mv 18 (.v 0)),
               (none, .mv 19 (.v 5)),
               (none, .iadr 20 2 (.v 18) (.v 19)),
               (none, .load 21 true 2 (.v 20) (some .freeze)),
               (none, .mv 22 (.v 1)),
               (none, .call (some 23) 412 false [((.v 21), false), ((.v 22), false)]),
               (none, .asg 1 (.v 23) .copy)])
             (.seq
              (.region [] [] [0, 1, 5, 25] false [
                (none, .mv 24 (.v 1)),
                (none, .bin 25 .lss (.v 24) (.c (.int .i64 0)))])
              (.cond (.v 25)
               (.seq
                (.region [] [] [4] false [
                  (none, .asg 4 (.c (.int .i64 (-1))) .copy)])
                (.ret [4]))
               (.skip [0, 1, 5])))))
           (.region [] [] [0, 1, 5] false [
             (none, .mv 16 (.v 5)),
             (none, .bin 17 .add (.v 16) (.c (.int .i64 1))),
             (none, .asg 5 (.v 17) .copy)]))))))
      (.seq
       (.region [] [] [4] false [
         (none, .mv 26 (.v 1)),
         (none, .asg 4 (.v 26) .copy)])
       (.ret [4]))))))⟩
def F419 : PFunc :=
 ⟨[false], [.tmp 2],
  (.seq
   (.region [] [] [0] false [
     (none, .asg 2 (.c (.sl true 1 [])) .copy)])
   (.seq
    (.region [(5, 0, false)] [] [0, 3] false [
      (none, .mv 5 (.v 0)),
      (none, .len 6 false (.v 5)),
      (none, .make 7 1 (.int .i64 0) (.v 6)),
      (none, .asg 3 (.v 7) .move)])
    (.seq
     (.seq
      (.region [] [] [0, 3, 4] false [
        (none, .asg 4 (.c (.int .i64 0)) .copy)])
      (.block 0
       (.loop
        (.seq
         (.seq
          (.region [(9, 0, false)] [] [0, 3, 4, 11] false [
            (none, .mv 8 (.v 4)),
            (none, .mv 9 (.v 0)),
            (none, .len 10 false (.v 9)),
            (none, .bin 11 .lss (.v 8) (.v 10))])
          (.cond (.v 11)
           (.skip [0, 3, 4])
           (.exit 0 [3])))
         (.seq
          (.block 1
           (.region [(20, 3, false), (18, 0, false), (16, 0, false), (14, 3, false)] [] [0, 3, 4] false [
             (none, .mv 14 (.v 3)),
             (none, .mv 15 (.v 4)),
             (none, .mv 16 (.v 0)),
             (none, .mv 17 (.v 4)),
             (none, .iadr 18 1 (.v 16) (.v 17)),
             (none, .load 19 false 1 (.v 18) none),
             (none, .iadr 20 1 (.v 14) (.v 15)),
             (none, .store 1 (.v 20) (.v 19) .copy)]))
          (.region [] [] [0, 3, 4] false [
            (none, .mv 12 (.v 4)),
            (none, .bin 13 .add (.v 12) (.c (.int .i64 1))),
            (none, .asg 4 (.v 13) .copy)]))))))
     (.seq
      (.region [(21, 3, false)] [] [2] false [
        (none, .mv 21 (.v 3)),
        (none, .asg 2 (.v 21) .move)])
      (.ret [2])))))⟩
def F417 : PFunc :=
 ⟨[false], [.cell 2 true 2],
  (.seq
   (.region [] [] [1, 2] false [
     (none, .box 1 (.v 0) .move),
     (none, .new 2 (.agg [(.str []), (.sl true 1 [])]))])
   (.seq
    (.region [] [] [1, 2, 3] false [
      (none, .new 3 (.agg [(.str []), (.sl true 1 [])]))])
    (.seq
     (.region [(6, 3, false), (4, 1, false)] [] [1, 2, 3] false [
       (none, .fadr 4 0 1 (.v 1)),
       (none, .load 5 false 1 (.v 4) none),
       (none, .fadr 6 0 1 (.v 3)),
       (none, .store 1 (.v 6) (.v 5) .copy)])
     (.seq
      (.region [(10, 3, false), (8, 1, true), (7, 1, false)] [] [2, 3] false [
        (none, .fadr 7 1 1 (.v 1)),
        (none, .load 8 false 1 (.v 7) none),
        (none, .call (some 9) 419 false [((.v 8), false)]),
        (none, .fadr 10 1 1 (.v 3)),
        (none, .store 1 (.v 10) (.v 9) .move)])
      (.seq
       (.region [] [] [2] false [
         (none, .load 11 true 2 (.v 3) (some .move)),
         (none, .store 2 (.v 2) (.v 11) .move)])
       (.ret [2]))))))⟩
def F418 : PFunc :=
 ⟨[false], [.tmp 2],
  (.seq
   (.region [] [] [0] false [
     (none, .asg 2 (.c (.sl true 2 [])) .copy)])
   (.seq
    (.region [(5, 0, false)] [] [0, 3] false [
      (none, .mv 5 (.v 0)),
      (none, .len 6 false (.v 5)),
      (none, .make 7 2 (.agg [(.str []), (.sl true 1 [])]) (.v 6)),
      (none, .asg 3 (.v 7) .move)])
    (.seq
     (.seq
      (.region [] [] [0, 3, 4] false [
        (none, .asg 4 (.c (.int .i64 0)) .copy)])
      (.block 0
       (.loop
        (.seq
         (.seq
          (.region [(9, 0, false)] [] [0, 3, 4, 11] false [
            (none, .mv 8 (.v 4)),
            (none, .mv 9 (.v 0)),
            (none, .len 10 false (.v 9)),
            (none, .bin 11 .lss (.v 8) (.v 10))])
          (.cond (.v 11)
           (.skip [0, 3, 4])
           (.exit 0 [3])))
         (.seq
          (.block 1
           (.region [(21, 3, false), (18, 0, false), (16, 0, false), (14, 3, false)] [] [0, 3, 4] false [
             (none, .mv 14 (.v 3)),
             (none, .mv 15 (.v 4)),
             (none, .mv 16 (.v 0)),
             (none, .mv 17 (.v 4)),
             (none, .iadr 18 2 (.v 16) (.v 17)),
             (none, .load 19 true 2 (.v 18) (some .freeze)),
             (none, .call (some 20) 417 false [((.v 19), false)]),
             (none, .iadr 21 2 (.v 14) (.v 15)),
             (none, .store 2 (.v 21) (.v 20) .move)]))
          (.region [] [] [0, 3, 4] false [
            (none, .mv 12 (.v 4)),
            (none, .bin 13 .add (.v 12) (.c (.int .i64 1))),
            (none, .asg 4 (.v 13) .copy)]))))))
     (.seq
      (.region [(22, 3, false)] [] [2] false [
        (none, .mv 22 (.v 3)),
        (none, .asg 2 (.v 22) .move)])
      (.ret [2])))))⟩
def F606 : PFunc :=
 ⟨[false, false], [.tmp 4],
  (.seq
   (.region [] [] [0, 1] false [
     (none, .asg 4 (.c (.int .i64 0)) .copy)])
   (.seq
    (.seq
     (.region [] [] [0, 1, 7] false [
       (none, .mv 5 (.v 0)),
       (none, .mv 6 (.v 1)),
       (none, .bin 7 .gtr (.v 5) (.v 6))])
     (.cond (.v 7)
      (.seq
       (.region [] [] [4] false [
         (none, .mv 8 (.v 0)),
         (none, .asg 4 (.v 8) .copy)])
       (.ret [4]))
      (.skip [1])))
    (.seq
     (.region [] [] [4] false [
       (none, .mv 9 (.v 1)),
       (none, .asg 4 (.v 9) .copy)])
     (.ret [4]))))⟩
def F766 : PFunc :=
 ⟨[false], [.tmp 2],
  (.seq
   (.region [] [] [0] false [
     (none, .asg 2 (.c (.int .i64 0)) .copy)])
   (.seq
    (.region [] [] [0, 3] false [
      (none, .asg 3 (.c (.int .i64 0)) .copy)])
    (.seq
     (.seq
      (.region [] [] [0, 3, 4] false [
        (none, .asg 4 (.c (.int .i64 0)) .copy)])
      (.block 0
       (.loop
        (.seq
         (.seq
          (.region [(6, 0, false)] [] [0, 3, 4, 8] false [
            (none, .mv 5 (.v 4)),
            (none, .mv 6 (.v 0)),
            (none, .len 7 false (.v 6)),
            (none, .bin 8 .lss (.v 5) (.v 7))])
          (.cond (.v 8)
           (.skip [0, 3, 4])
           (.exit 0 [3])))
         (.seq
          (.block 1
           (.region [(14, 0, false), (12, 0, false)] [] [0, 3, 4] false [
             (none, .mv 11 (.v 3)),
             (none, .mv 12 (.v 0)),
             (none, .mv 13 (.v 4)),
             (none, .iadr 14 1 (.v 12) (.v 13)),
             (none, .load 15 false 1 (.v 14) none),
             (none, .conv 16 .u64 (.v 15)),
             (none, .bin 17 .shl (.c (.int .i64 1)) (.v 16)),
             (none, .bin 18 .or (.v 11) (.v 17)),
             (none, .asg 3 (.v 18) .copy)]))
          (.region [] [] [0, 3, 4] false [
            (none, .mv 9 (.v 4)),
            (none, .bin 10 .add (.v 9) (.c (.int .i64 1))),
            (none, .asg 4 (.v 10) .copy)]))))))
     (.seq
      (.region [] [] [2] false [
        (none, .mv 19 (.v 3)),
        (none, .asg 2 (.v 19) .copy)])
      (.ret [2])))))⟩
def F774 : PFunc :=
 ⟨[false, false], [.tmp 4],
  (.seq
   (.region [] [] [0, 1] false [
     (none, .asg 4 (.c (.int .i64 0)) .copy)])
   (.seq
    (.region [] [] [0, 1, 5] false [
      (none, .asg 5 (.c (.int .i64 0)) .copy)])
    (.seq
     (.seq
      (.region [] [] [0, 1, 5, 6] false [
        (none, .asg 6 (.c (.int .i64 0)) .copy)])
      (.block 0
       (.loop
        (.seq
         (.seq
          (.region [(8, 0, false)] [] [0, 1, 5, 6, 10] false [
            (none, .mv 7 (.v 6)),
            (none, .mv 8 (.v 0)),
            (none, .len 9 false (.v 8)),
            (none, .bin 10 .lss (.v 7) (.v 9))])
          (.cond (.v 10)
           (.skip [0, 1, 5, 6])
           (.exit 0 [5])))
         (.seq
          (.block 1
           (.seq
            (.region [] [] [0, 1, 5, 6, 18] false [
              (none, .mv 13 (.v 1)),
              (none, .mv 14 (.v 6)),
              (none, .conv 15 .u64 (.v 14)),
              (none, .bin 16 .shr (.v 13) (.v 15)),
              (none, .bin 17 .and (.v 16) (.c (.int .i64 1))),
              (none, .bin 18 .eql (.v 17) (.c (.int .i64 1)))])
            (.cond (.v 18)
             (.region [(24, 0, true), (23, 0, false), (22, 0, false), (20, 0, false)] [] [0, 1, 5, 6] false [
               (none, .mv 19 (.v 5)),
               (none, .mv 20 (.v 0)),
               (none, .mv 21 (.v 6)),
               (none, .iadr 22 2 (.v 20) (.v 21)),
               (none, .fadr 23 1 1 (.v 22)),
               (none, .load 24 false 1 (.v 23) none),
               (none, .call (some 25) 766 false [((.v 24), false)]),
               (none, .bin 26 .or (.v 19) (.v 25)),
               (none, .asg 5 (.v 26) .copy)])
             (.skip [0, 1, 5, 6]))))
          (.region [] [] [0, 1, 5, 6] false [
            (none, .mv 11 (.v 6)),
            (none, .bin 12 .add (.v 11) (.c (.int .i64 1))),
            (none, .asg 6 (.v 12) .copy)]))))))
     (.seq
      (.region [] [] [4] false [
        (none, .mv 27 (.v 5)),
        (none, .asg 4 (.v 27) .copy)])
      (.ret [4])))))⟩
def F764 : PFunc :=
 ⟨[false, false], [.tmp 4],
  (.seq
   (.region [] [] [0, 1] false [
     (none, .asg 4 (.c (.sl true 1 [])) .copy)])
   (.seq
    (.region [(8, 1, false)] [] [0, 5] false [
      (none, .mv 8 (.v 1)),
      (none, .call (some 9) 766 false [((.v 8), false)]),
      (none, .asg 5 (.v 9) .copy)])
    (.seq
     (.region [] [] [0, 5, 6] false [
       (none, .mksl 10 1 (.int .i64 0) 0 []),
       (none, .asg 6 (.v 10) .move)])
     (.seq
      (.seq
       (.region [] [] [0, 5, 6, 7] false [
         (none, .asg 7 (.c (.int .i64 0)) .copy)])
       (.block 0
        (.loop
         (.seq
          (.seq
           (.region [(12, 0, false)] [] [0, 5, 6, 7, 16] false [
             (none, .mv 11 (.v 7)),
             (none, .mv 12 (.v 0)),
             (none, .len 13 false (.v 12)),
             (none, .conv 14 .u64 (.v 13)),
             (none, .bin 15 .shl (.c (.int .i64 1)) (.v 14)),
             (none, .bin 16 .lss (.v 11) (.v 15))])
           (.cond (.v 16)
            (.skip [0, 5, 6, 7])
            (.exit 0 [6])))
          (.seq
           (.block 1
            (.seq
             (.region [(19, 0, false)] [] [0, 5, 6, 7, 23] false [
               (none, .mv 19 (.v 0)),
               (none, .mv 20 (.v 7)),
               (none, .call (some 21) 774 false [((.v 19), false), ((.v 20), false)]),
               (none, .mv 22 (.v 5)),
               (none, .bin 23 .eql (.v 21) (.v 22))])
             (.cond (.v 23)
              (.region [(24, 6, false)] [] [0, 5, 6, 7] false [
                (none, .mv 24 (.v 6)),
                (none, .mv 25 (.v 7)),
                (none, .mksl 26 1 (.int .i64 0) 1 [(0, (.v 25), .copy)]),
                (none, .app 27 1 (.v 24) (.v 26) .move),
                (none, .asg 6 (.v 27) .move)])
              (.skip [0, 5, 6, 7]))))
           (.region [] [] [0, 5, 6, 7] false [
             (none, .mv 17 (.v 7)),
             (none, .bin 18 .add (.v 17) (.c (.int .i64 1))),
             (none, .asg 7 (.v 18) .copy)]))))))
      (.seq
       (.region [(28, 6, false)] [] [4] false [
         (none, .mv 28 (.v 6)),
         (none, .asg 4 (.v 28) .move)])
       (.ret [4]))))))⟩
def F605 : PFunc :=
 ⟨[false, false, false], [.tmp 6],
  (.seq
   (.region [] [] [0, 1, 2] false [
     (none, .asg 6 (.c (.bool false)) .copy)])
   (.seq
    (.region [] [] [6] false [
      (none, .mv 7 (.v 0)),
      (none, .mv 8 (.v 1)),
      (none, .bin 9 .geq (.v 7) (.v 8)),
      (none, .mv 10 (.v 9)),
      (some (10, true), .mv 11 (.v 0)),
      (some (10, true), .mv 12 (.v 2)),
      (some (10, true), .bin 13 .leq (.v 11) (.v 12)),
      (none, .pick 14 (.v 10) (.v 13) (.c (.bool false))),
      (none, .asg 6 (.v 14) .copy)])
    (.ret [6])))⟩
def F609 : PFunc :=
 ⟨[false, false, false], [.tmp 6],
  (.seq
   (.region [] [] [0, 1, 2] false [
     (none, .asg 6 (.c (.bool false)) .copy)])
   (.seq
    (.seq
     (.region [] [] [0, 1, 2, 7] false [
       (none, .asg 7 (.c (.int .i64 0)) .copy)])
     (.block 0
      (.loop
       (.seq
        (.seq
         (.region [(9, 0, false)] [] [0, 1, 2, 7, 11] false [
           (none, .mv 8 (.v 7)),
           (none, .mv 9 (.v 0)),
           (none, .len 10 false (.v 9)),
           (none, .bin 11 .lss (.v 8) (.v 10))])
         (.cond (.v 11)
          (.skip [0, 1, 2, 7])
          (.exit 0 [])))
        (.seq
         (.block 1
          (.seq
           (.region [(33, 0, false), (31, 0, false), (29, 0, false), (26, 0, false), (16, 0, false), (14, 0, false)] [] [0, 1, 2, 7, 37] true [
             (none, .mv 14 (.v 0)),
             (none, .mv 15 (.v 7)),
             (none, .iadr 16 1 (.v 14) (.v 15)),
             (none, .load 17 false 1 (.v 16) none),
             (none, .mv 18 (.v 1)),
             (none, .mv 19 (.v 2)),
             (none, .call (some 20) 605 false [((.v 17), false), ((.v 18), false), ((.v 19), false)]),
             (none, .un 21 .not (.v 20)),
             (none, .mv 22 (.v 21)),
             (some (22, false), .mv 23 (.v 7)),
             (some (22, false), .bin 24 .gtr (.v 23) (.c (.int .i64 0))),
             (some (22, false), .mv 25 (.v 24)),
             (some (25, true), .mv 26 (.v 0)),
             (some (25, true), .mv 27 (.v 7)),
             (some (25, true), .bin 28 .sub (.v 27) (.c (.int .i64 1))),
             (some (25, true), .iadr 29 1 (.v 26) (.v 28)),
             (some (25, true), .load 30 false 1 (.v 29) none),
             (some (25, true), .mv 31 (.v 0)),
             (some (25, true), .mv 32 (.v 7)),
             (some (25, true), .iadr 33 1 (.v 31) (.v 32)),
             (some (25, true), .load 34 false 1 (.v 33) none),
             (some (25, true), .bin 35 .geq (.v 30) (.v 34)),
             (some (22, false), .pick 36 (.v 25) (.v 35) (.c (.bool false))),
             (none, .pick 37 (.v 22) (.c (.bool true)) (.v 36))])
           (.cond (.v 37)
            (.seq
             (.region [] [] [6] false [
               (none, .asg 6 (.c (.bool false)) .copy)])
             (.ret [6]))
            (.skip [0, 1, 2, 7]))))
         (.region [] [] [0, 1, 2, 7] false [
           (none, .mv 12 (.v 7)),
           (none, .bin 13 .add (.v 12) (.c (.int .i64 1))),
           (none, .asg 7 (.v 13) .copy)]))))))
    (.seq
     (.region [] [] [6] false [
       (none, .asg 6 (.c (.bool true)) .copy)])
     (.ret [6]))))⟩
def F612 : PFunc :=
 ⟨[false], [.tmp 2],
  (.seq
   (.region [] [] [0] false [
     (none, .asg 2 (.c (.bool false)) .copy)])
   (.seq
    (.region [] [] [2] false [
      (none, .mv 3 (.v 0)),
      (none, .bin 4 .geq (.v 3) (.c (.int .u8 48))),
      (none, .mv 5 (.v 4)),
      (some (5, true), .mv 6 (.v 0)),
      (some (5, true), .bin 7 .leq (.v 6) (.c (.int .u8 57))),
      (none, .pick 8 (.v 5) (.v 7) (.c (.bool false))),
      (none, .asg 2 (.v 8) .copy)])
    (.ret [2])))⟩
def F613 : PFunc :=
 ⟨[false], [.tmp 2],
  (.seq
   (.region [] [] [0] false [
     (none, .asg 2 (.c (.bool false)) .copy)])
   (.seq
    (.region [] [] [2] false [
      (none, .mv 3 (.v 0)),
      (none, .bin 4 .geq (.v 3) (.c (.int .u8 97))),
      (none, .mv 5 (.v 4)),
      (some (5, true), .mv 6 (.v 0)),
      (some (5, true), .bin 7 .leq (.v 6) (.c (.int .u8 122))),
      (none, .pick 8 (.v 5) (.v 7) (.c (.bool false))),
      (none, .asg 2 (.v 8) .copy)])
    (.ret [2])))⟩
def F533 : PFunc :=
 ⟨[false], [.tmp 2],
  (.seq
   (.region [] [] [0] false [
     (none, .asg 2 (.c (.bool false)) .copy)])
   (.seq
    (.seq
     (.region [] [] [0, 16] false [
       (none, .mv 4 (.v 0)),
       (none, .bin 5 .eql (.v 4) (.c (.str []))),
       (none, .mv 6 (.v 5)),
       (some (6, false), .mv 7 (.v 0)),
       (some (6, false), .len 8 true (.v 7)),
       (some (6, false), .bin 9 .gtr (.v 8) (.c (.int .i64 12))),
       (none, .pick 10 (.v 6) (.c (.bool true)) (.v 9)),
       (none, .mv 11 (.v 10)),
       (some (11, false), .mv 12 (.v 0)),
       (some (11, false), .idx 13 (.v 12) (.c (.int .i64 0))),
       (some (11, false), .call (some 14) 613 false [((.v 13), false)]),
       (some (11, false), .un 15 .not (.v 14)),
       (none, .pick 16 (.v 11) (.c (.bool true)) (.v 15))])
     (.cond (.v 16)
      (.seq
       (.region [] [] [2] false [
         (none, .asg 2 (.c (.bool false)) .copy)])
       (.ret [2]))
      (.skip [0])))
    (.seq
     (.seq
      (.region [] [] [0, 3] false [
        (none, .asg 3 (.c (.int .i64 0)) .copy)])
      (.block 0
       (.loop
        (.seq
         (.seq
          (.region [] [] [0, 3, 20] false [
            (none, .mv 17 (.v 3)),
            (none, .mv 18 (.v 0)),
            (none, .len 19 true (.v 18)),
            (none, .bin 20 .lss (.v 17) (.v 19))])
          (.cond (.v 20)
           (.skip [0, 3])
           (.exit 0 [])))
         (.seq
          (.block 1
           (.seq
            (.region [] [] [0, 3, 40] false [
              (none, .mv 23 (.v 0)),
              (none, .mv 24 (.v 3)),
              (none, .idx 25 (.v 23) (.v 24)),
              (none, .call (some 26) 613 false [((.v 25), false)]),
              (none, .un 27 .not (.v 26)),
              (none, .mv 28 (.v 27)),
              (some (28, true), .mv 29 (.v 0)),
              (some (28, true), .mv 30 (.v 3)),
              (some (28, true), .idx 31 (.v 29) (.v 30)),
              (some (28, true), .call (some 32) 612 false [((.v 31), false)]),
              (some (28, true), .un 33 .not (.v 32)),
              (none, .pick 34 (.v 28) (.v 33) (.c (.bool false))),
              (none, .mv 35 (.v 34)),
              (some (35, true), .mv 36 (.v 0)),
              (some (35, true), .mv 37 (.v 3)),
              (some (35, true), .idx 38 (.v 36) (.v 37)),
              (some (35, true), .bin 39 .neq (.v 38) (.c (.int .u8 45))),
              (none, .pick 40 (.v 35) (.v 39) (.c (.bool false)))])
            (.cond (.v 40)
             (.seq
              (.region [] [] [2] false [
                (none, .asg 2 (.c (.bool false)) .copy)])
              (.ret [2]))
             (.skip [0, 3]))))
          (.region [] [] [0, 3] false [
            (none, .mv 21 (.v 3)),
            (none, .bin 22 .add (.v 21) (.c (.int .i64 1))),
            (none, .asg 3 (.v 22) .copy)]))))))
     (.seq
      (.region [] [] [2] false [
        (none, .asg 2 (.c (.bool true)) .copy)])
      (.ret [2])))))⟩
def F772 : PFunc :=
 ⟨[false, false], [.tmp 4],
  (.seq
   (.region [] [] [0, 1] false [
     (none, .asg 4 (.c (.bool false)) .copy)])
   (.seq
    (.seq
     (.region [(11, 1, false)] [] [0, 1, 14] false [
       (none, .mv 7 (.v 0)),
       (none, .call (some 8) 605 false [((.v 7), false), ((.c (.int .i64 1)), false), ((.c (.int .i64 16)), false)]),
       (none, .un 9 .not (.v 8)),
       (none, .mv 10 (.v 9)),
       (some (10, false), .mv 11 (.v 1)),
       (some (10, false), .len 12 false (.v 11)),
       (some (10, false), .bin 13 .gtr (.v 12) (.c (.int .i64 10))),
       (none, .pick 14 (.v 10) (.c (.bool true)) (.v 13))])
     (.cond (.v 14)
      (.seq
       (.region [] [] [4] false [
         (none, .asg 4 (.c (.bool false)) .copy)])
       (.ret [4]))
      (.skip [0, 1])))
    (.seq
     (.seq
      (.region [] [] [0, 1, 5] false [
        (none, .asg 5 (.c (.int .i64 0)) .copy)])
      (.block 0
       (.loop
        (.seq
         (.seq
          (.region [(16, 1, false)] [] [0, 1, 5, 18] false [
            (none, .mv 15 (.v 5)),
            (none, .mv 16 (.v 1)),
            (none, .len 17 false (.v 16)),
            (none, .bin 18 .lss (.v 15) (.v 17))])
          (.cond (.v 18)
           (.skip [0, 1, 5])
           (.exit 0 [])))
         (.seq
          (.block 1
           (.seq
            (.seq
             (.region [(42, 1, true), (41, 1, false), (40, 1, false), (38, 1, false), (33, 1, true), (32, 1, false), (31, 1, false), (29, 1, false), (24, 1, false), (23, 1, false), (21, 1, false)] [] [0, 1, 5, 47] false [
               (none, .mv 21 (.v 1)),
               (none, .mv 22 (.v 5)),
               (none, .iadr 23 2 (.v 21) (.v 22)),
               (none, .fadr 24 0 1 (.v 23)),
               (none, .load 25 false 1 (.v 24) none),
               (none, .call (some 26) 533 false [((.v 25), false)]),
               (none, .un 27 .not (.v 26)),
               (none, .mv 28 (.v 27)),
               (some (28, false), .mv 29 (.v 1)),
               (some (28, false), .mv 30 (.v 5)),
               (some (28, false), .iadr 31 2 (.v 29) (.v 30)),
               (some (28, false), .fadr 32 1 1 (.v 31)),
               (some (28, false), .load 33 false 1 (.v 32) none),
               (some (28, false), .len 34 false (.v 33)),
               (some (28, false), .bin 35 .eql (.v 34) (.c (.int .i64 0))),
               (none, .pick 36 (.v 28) (.c (.bool true)) (.v 35)),
               (none, .mv 37 (.v 36)),
               (some (37, false), .mv 38 (.v 1)),
               (some (37, false), .mv 39 (.v 5)),
               (some (37, false), .iadr 40 2 (.v 38) (.v 39)),
               (some (37, false), .fadr 41 1 1 (.v 40)),
               (some (37, false), .load 42 false 1 (.v 41) none),
               (some (37, false), .mv 43 (.v 0)),
               (some (37, false), .bin 44 .sub (.v 43) (.c (.int .i64 1))),
               (some (37, false), .call (some 45) 609 false [((.v 42), false), ((.c (.int .i64 0)), false), ((.v 44), false)]),
               (some (37, false), .un 46 .not (.v 45)),
               (none, .pick 47 (.v 37) (.c (.bool true)) (.v 46))])
             (.cond (.v 47)
              (.seq
               (.region [] [] [4] false [
                 (none, .asg 4 (.c (.bool false)) .copy)])
               (.ret [4]))
              (.skip [0, 1, 5])))
            (.seq
             (.region [] [] [0, 1, 5, 6] false [
               (none, .asg 6 (.c (.int .i64 0)) .copy)])
             (.block 2
              (.loop
               (.seq
                (.seq
                 (.region [] [] [0, 1, 5, 6, 50] false [
                   (none, .mv 48 (.v 6)),
                   (none, .mv 49 (.v 5)),
                   (none, .bin 50 .lss (.v 48) (.v 49))])
                 (.cond (.v 50)
                  (.skip [0, 1, 5, 6])
                  (.exit 2 [0, 1, 5])))
                (.seq
                 (.block 3
                  (.seq
                   (.region [(61, 1, false), (60, 1, false), (58, 1, false), (56, 1, false), (55, 1, false), (53, 1, false)] [] [0, 1, 5, 6, 63] true [
                     (none, .mv 53 (.v 1)),
                     (none, .mv 54 (.v 6)),
                     (none, .iadr 55 2 (.v 53) (.v 54)),
                     (none, .fadr 56 0 1 (.v 55)),
                     (none, .load 57 false 1 (.v 56) none),
                     (none, .mv 58 (.v 1)),
                     (none, .mv 59 (.v 5)),
                     (none, .iadr 60 2 (.v 58) (.v 59)),
                     (none, .fadr 61 0 1 (.v 60)),
                     (none, .load 62 false 1 (.v 61) none),
                     (none, .bin 63 .eql (.v 57) (.v 62))])
                   (.cond (.v 63)
                    (.seq
                     (.region [] [] [4] false [
                       (none, .asg 4 (.c (.bool false)) .copy)])
                     (.ret [4]))
                    (.skip [0, 1, 5, 6]))))
                 (.region [] [] [0, 1, 5, 6] false [
                   (none, .mv 51 (.v 6)),
                   (none, .bin 52 .add (.v 51) (.c (.int .i64 1))),
                   (none, .asg 6 (.v 52) .copy)]))))))))
          (.region [] [] [0, 1, 5] false [
            (none, .mv 19 (.v 5)),
            (none, .bin 20 .add (.v 19) (.c (.int .i64 1))),
            (none, .asg 5 (.v 20) .copy)]))))))
     (.seq
      (.region [] [] [4] false [
        (none, .asg 4 (.c (.bool true)) .copy)])
      (.ret [4])))))⟩
def F767 : PFunc :=
 ⟨[false, false, false], [.tmp 6],
  (.seq
   (.region [] [] [0, 1, 2] false [
     (none, .asg 6 (.c (.int .i64 0)) .copy)])
   (.seq
    (.seq
     (.region [(8, 1, false)] [] [0, 2, 10] false [
       (none, .mv 7 (.v 0)),
       (none, .mv 8 (.v 1)),
       (none, .call (some 9) 772 false [((.v 7), false), ((.v 8), false)]),
       (none, .un 10 .not (.v 9))])
     (.cond (.v 10)
      (.seq
       (.region [] [] [6] false [
         (none, .asg 6 (.c (.int .i64 1)) .copy)])
       (.ret [6]))
      (.skip [0, 2])))
    (.seq
     (.seq
      (.region [(11, 2, false)] [] [15] false [
        (none, .mv 11 (.v 2)),
        (none, .mv 12 (.v 0)),
        (none, .bin 13 .sub (.v 12) (.c (.int .i64 1))),
        (none, .call (some 14) 609 false [((.v 11), false), ((.c (.int .i64 0)), false), ((.v 13), false)]),
        (none, .un 15 .not (.v 14))])
      (.cond (.v 15)
       (.seq
        (.region [] [] [6] false [
          (none, .asg 6 (.c (.int .i64 2)) .copy)])
        (.ret [6]))
       (.skip [])))
     (.seq
      (.region [] [] [6] false [
        (none, .asg 6 (.c (.int .i64 0)) .copy)])
      (.ret [6])))))⟩
def F775 : PFunc :=
 ⟨[false, false, false], [.tmp 6, .tmp 7],
  (.seq
   (.region [] [] [0, 1, 2] false [
     (none, .asg 6 (.c (.sl true 1 [])) .copy),
     (none, .asg 7 (.c (.int .i64 0)) .copy)])
   (.seq
    (.region [(12, 2, false), (11, 1, false)] [] [1, 2, 8] false [
      (none, .mv 10 (.v 0)),
      (none, .mv 11 (.v 1)),
      (none, .mv 12 (.v 2)),
      (none, .call (some 13) 767 false [((.v 10), false), ((.v 11), false), ((.v 12), false)]),
      (none, .asg 8 (.v 13) .copy)])
    (.seq
     (.seq
      (.region [] [] [1, 2, 8, 15] false [
        (none, .mv 14 (.v 8)),
        (none, .bin 15 .neq (.v 14) (.c (.int .i64 0)))])
      (.cond (.v 15)
       (.seq
        (.region [] [] [6, 7] false [
          (none, .mv 16 (.v 8)),
          (none, .asg 6 (.c (.sl true 1 [])) .copy),
          (none, .asg 7 (.v 16) .copy)])
        (.ret [6, 7]))
       (.skip [1, 2])))
     (.seq
      (.region [(18, 2, false), (17, 1, false)] [] [9] false [
        (none, .mv 17 (.v 1)),
        (none, .mv 18 (.v 2)),
        (none, .call (some 19) 764 false [((.v 17), false), ((.v 18), false)]),
        (none, .asg 9 (.v 19) .move)])
      (.seq
       (.seq
        (.region [(20, 9, false)] [] [9, 22] false [
          (none, .mv 20 (.v 9)),
          (none, .len 21 false (.v 20)),
          (none, .bin 22 .eql (.v 21) (.c (.int .i64 0)))])
        (.cond (.v 22)
         (.seq
          (.region [] [] [6, 7] false [
            (none, .asg 6 (.c (.sl true 1 [])) .copy),
            (none, .asg 7 (.c (.int .i64 3)) .copy)])
          (.ret [6, 7]))
         (.skip [9])))
       (.seq
        (.region [(23, 9, false)] [] [6, 7] false [
          (none, .mv 23 (.v 9)),
          (none, .asg 6 (.v 23) .move),
          (none, .asg 7 (.c (.int .i64 0)) .copy)])
        (.ret [6, 7])))))))⟩
def F441 : PFunc :=
 ⟨[false, false, false], [.tmp 6, .tmp 7],
  (.seq
   (.region [] [] [0, 1, 2] false [
     (none, .asg 6 (.c (.int .i64 0)) .copy),
     (none, .asg 7 (.c (.int .i64 0)) .copy)])
   (.seq
    (.region [(19, 2, false), (18, 1, false)] [] [1, 8, 9] false [
      (none, .mv 17 (.v 0)),
      (none, .mv 18 (.v 1)),
      (none, .mv 19 (.v 2)),
      (none, .call (some 20) 775 false [((.v 17), false), ((.v 18), false), ((.v 19), false)]),
      (none, .asg 16 (.v 20) .move),
      (none, .ext 21 (.v 16) 0),
      (none, .extp 22 (.v 16) 1),
      (none, .asg 8 (.v 21) .move),
      (none, .asg 9 (.v 22) .copy)])
    (.seq
     (.seq
      (.region [] [] [1, 8, 9, 24] false [
        (none, .mv 23 (.v 9)),
        (none, .bin 24 .neq (.v 23) (.c (.int .i64 0)))])
      (.cond (.v 24)
       (.seq
        (.region [] [] [6, 7] false [
          (none, .mv 25 (.v 9)),
          (none, .asg 6 (.c (.int .i64 0)) .copy),
          (none, .asg 7 (.v 25) .copy)])
        (.ret [6, 7]))
       (.skip [1, 8])))
     (.seq
      (.region [] [] [1, 8, 10] false [
        (none, .asg 10 (.c (.int .i64 (-1))) .copy)])
      (.seq
       (.region [(26, 8, false)] [] [1, 8, 10, 11] false [
         (none, .mv 26 (.v 8)),
         (none, .len 27 false (.v 26)),
         (none, .asg 11 (.v 27) .copy)])
       (.seq
        (.seq
         (.region [] [] [1, 8, 10, 11, 12] false [
           (none, .asg 12 (.c (.int .i64 0)) .copy)])
         (.block 0
          (.loop
           (.seq
            (.seq
             (.region [(29, 1, false)] [] [1, 8, 10, 11, 12, 31] false [
               (none, .mv 28 (.v 12)),
               (none, .mv 29 (.v 1)),
               (none, .len 30 false (.v 29)),
               (none, .bin 31 .lss (.v 28) (.v 30))])
             (.cond (.v 31)
              (.skip [1, 8, 10, 11, 12])
              (.exit 0 [10])))
            (.seq
             (.block 1
              (.seq
               (.region [] [] [1, 8, 10, 11, 12, 13] false [
                 (none, .asg 13 (.c (.int .i64 0)) .copy)])
               (.seq
                (.seq
                 (.region [] [] [1, 8, 10, 11, 12, 13, 14] false [
                   (none, .asg 14 (.c (.int .i64 0)) .copy)])
                 (.block 2
                  (.loop
                   (.seq
                    (.seq
                     (.region [(35, 8, false)] [] [1, 8, 10, 11, 12, 13, 14, 37] false [
                       (none, .mv 34 (.v 14)),
                       (none, .mv 35 (.v 8)),
                       (none, .len 36 false (.v 35)),
                       (none, .bin 37 .lss (.v 34) (.v 36))])
                     (.cond (.v 37)
                      (.skip [1, 8, 10, 11, 12, 13, 14])
                      (.exit 2 [1, 8, 10, 11, 12, 13])))
                    (.seq
                     (.block 3
                      (.region [(43, 8, false), (41, 8, false)] [] [1, 8, 10, 11, 12, 13, 14] false [
                        (none, .mv 40 (.v 13)),
                        (none, .mv 41 (.v 8)),
                        (none, .mv 42 (.v 14)),
                        (none, .iadr 43 1 (.v 41) (.v 42)),
                        (none, .load 44 false 1 (.v 43) none),
                        (none, .mv 45 (.v 12)),
                        (none, .conv 46 .u64 (.v 45)),
                        (none, .bin 47 .shr (.v 44) (.v 46)),
                        (none, .bin 48 .and (.v 47) (.c (.int .i64 1))),
                        (none, .bin 49 .add (.v 40) (.v 48)),
                        (none, .asg 13 (.v 49) .copy)]))
                     (.region [] [] [1, 8, 10, 11, 12, 13, 14] false [
                       (none, .mv 38 (.v 14)),
                       (none, .bin 39 .add (.v 38) (.c (.int .i64 1))),
                       (none, .asg 14 (.v 39) .copy)]))))))
                (.seq
                 (.region [(51, 8, false)] [] [1, 8, 10, 11, 12, 15] false [
                   (none, .mv 50 (.v 13)),
                   (none, .mv 51 (.v 8)),
                   (none, .len 52 false (.v 51)),
                   (none, .mv 53 (.v 13)),
                   (none, .bin 54 .sub (.v 52) (.v 53)),
                   (none, .call (some 55) 606 false [((.v 50), false), ((.v 54), false)]),
                   (none, .asg 15 (.v 55) .copy)])
                 (.seq
                  (.region [] [] [1, 8, 10, 11, 12, 15, 58] false [
                    (none, .mv 56 (.v 15)),
                    (none, .mv 57 (.v 11)),
                    (none, .bin 58 .lss (.v 56) (.v 57))])
                  (.cond (.v 58)
                   (.seq
                    (.region [] [] [1, 8, 10, 12, 15] false [
                      (none, .mv 59 (.v 12)),
                      (none, .asg 10 (.v 59) .copy)])
                    (.region [] [] [1, 8, 10, 11, 12] false [
                      (none, .mv 60 (.v 15)),
                      (none, .asg 11 (.v 60) .copy)]))
                   (.skip [1, 8, 10, 11, 12])))))))
             (.region [] [] [1, 8, 10, 11, 12] false [
               (none, .mv 32 (.v 12)),
               (none, .bin 33 .add (.v 32) (.c (.int .i64 1))),
               (none, .asg 12 (.v 33) .copy)]))))))
        (.seq
         (.seq
          (.region [] [] [10, 62] false [
            (none, .mv 61 (.v 10)),
            (none, .bin 62 .lss (.v 61) (.c (.int .i64 0)))])
          (.cond (.v 62)
           (.seq
            (.region [] [] [6, 7] false [
              (none, .asg 6 (.c (.int .i64 0)) .copy),
              (none, .asg 7 (.c (.int .i64 6)) .copy)])
            (.ret [6, 7]))
           (.skip [10])))
         (.seq
          (.region [] [] [6, 7] false [
            (none, .mv 63 (.v 10)),
            (none, .asg 6 (.v 63) .copy),
            (none, .asg 7 (.c (.int .i64 0)) .copy)])
          (.ret [6, 7])))))))))⟩
def F336 : PFunc :=
 ⟨[false, false, false], [.tmp 6],
  (.seq
   (.region [] [] [0, 1, 2] false [
     (none, .asg 6 (.c (.bool false)) .copy)])
   (.seq
    (.seq
     (.region [(14, 2, false)] [] [0, 1, 2, 16] false [
       (none, .mv 14 (.v 2)),
       (none, .len 15 false (.v 14)),
       (none, .bin 16 .gtr (.v 15) (.c (.int .i64 1048576)))])
     (.cond (.v 16)
      (.seq
       (.region [] [] [6] false [
         (none, .asg 6 (.c (.bool true)) .copy)])
       (.ret [6]))
      (.skip [0, 1, 2])))
    (.seq
     (.region [] [] [0, 1, 2, 7] false [
       (none, .asg 7 (.c (.int .i64 1048576)) .copy)])
     (.seq
      (.region [(17, 1, false)] [] [0, 1, 2, 7] false [
        (none, .mv 17 (.v 1)),
        (none, .mv 18 (.v 7)),
        (none, .call (some 19) 413 false [((.v 17), false), ((.v 18), false)]),
        (none, .asg 7 (.v 19) .copy)])
      (.seq
       (.seq
        (.region [] [] [0, 1, 2, 21] false [
          (none, .mv 20 (.v 7)),
          (none, .bin 21 .lss (.v 20) (.c (.int .i64 0)))])
        (.cond (.v 21)
         (.seq
          (.region [] [] [6] false [
            (none, .asg 6 (.c (.bool true)) .copy)])
          (.ret [6]))
         (.skip [0, 1, 2])))
       (.seq
        (.region [(26, 2, false), (24, 1, false)] [] [0, 1, 2, 8, 9] false [
          (none, .mv 23 (.v 0)),
          (none, .mv 24 (.v 1)),
          (none, .call (some 25) 418 false [((.v 24), false)]),
          (none, .mv 26 (.v 2)),
          (none, .call (some 27) 419 false [((.v 26), false)]),
          (none, .call (some 28) 441 false [((.v 23), false), ((.v 25), false), ((.v 27), false)]),
          (none, .asg 22 (.v 28) .copy),
          (none, .extp 29 (.v 22) 0),
          (none, .extp 30 (.v 22) 1),
          (none, .asg 8 (.v 29) .copy),
          (none, .asg 9 (.v 30) .copy)])
        (.seq
         (.region [(31, 1, false)] [] [0, 1, 2, 8, 9, 10] false [
           (none, .mv 31 (.v 1)),
           (none, .call (some 32) 418 false [((.v 31), false)]),
           (none, .asg 10 (.v 32) .move)])
         (.seq
          (.region [(33, 2, false)] [] [0, 1, 2, 8, 9, 10, 11] false [
            (none, .mv 33 (.v 2)),
            (none, .call (some 34) 419 false [((.v 33), false)]),
            (none, .asg 11 (.v 34) .move)])
          (.seq
           (.region [(38, 11, false), (37, 10, false)] [] [1, 2, 8, 9, 10, 11, 12, 13] false [
             (none, .mv 36 (.v 0)),
             (none, .mv 37 (.v 10)),
             (none, .mv 38 (.v 11)),
             (none, .call (some 39) 53 false [((.v 36), false), ((.v 37), false), ((.v 38), false)]),
             (none, .asg 35 (.v 39) .copy),
             (none, .extp 40 (.v 35) 0),
             (none, .extp 41 (.v 35) 1),
             (none, .asg 12 (.v 40) .copy),
             (none, .asg 13 (.v 41) .copy)])
           (.seq
            (.seq
             (.region [] [] [1, 2, 10, 11, 49] false [
               (none, .mv 42 (.v 12)),
               (none, .mv 43 (.v 8)),
               (none, .bin 44 .neq (.v 42) (.v 43)),
               (none, .mv 45 (.v 44)),
               (some (45, false), .mv 46 (.v 13)),
               (some (45, false), .mv 47 (.v 9)),
               (some (45, false), .bin 48 .neq (.v 46) (.v 47)),
               (none, .pick 49 (.v 45) (.c (.bool true)) (.v 48))])
             (.cond (.v 49)
              (.seq
               (.region [] [] [6] false [
                 (none, .asg 6 (.c (.bool false)) .copy)])
               (.ret [6]))
              (.skip [1, 2, 10, 11])))
            (.seq
             (.seq
              (.region [(51, 1, false), (50, 10, false)] [] [2, 11, 54] false [
                (none, .mv 50 (.v 10)),
                (none, .mv 51 (.v 1)),
                (none, .call (some 52) 418 false [((.v 51), false)]),
                (none, .call (some 53) 392 false [((.v 50), false), ((.v 52), false)]),
                (none, .un 54 .not (.v 53))])
              (.cond (.v 54)
               (.seq
                (.region [] [] [6] false [
                  (none, .asg 6 (.c (.bool false)) .copy)])
                (.ret [6]))
               (.skip [2, 11])))
             (.seq
              (.seq
               (.region [(56, 2, false), (55, 11, false)] [] [59] false [
                 (none, .mv 55 (.v 11)),
                 (none, .mv 56 (.v 2)),
                 (none, .call (some 57) 419 false [((.v 56), false)]),
                 (none, .call (some 58) 393 false [((.v 55), false), ((.v 57), false)]),
                 (none, .un 59 .not (.v 58))])
               (.cond (.v 59)
                (.seq
                 (.region [] [] [6] false [
                   (none, .asg 6 (.c (.bool false)) .copy)])
                 (.ret [6]))
                (.skip [])))
              (.seq
               (.region [] [] [6] false [
                 (none, .asg 6 (.c (.bool true)) .copy)])
               (.ret [6]))))))))))))))⟩
def tabl : List (Nat × PFunc) := [(116, F116), (209, F209), (326, F326), (276, F276), (821, F821), (799, F799), (208, F208), (256, F256), (273, F273), (308, F308), (811, F811), (266, F266), (305, F305), (53, F53), (393, F393), (391, F391), (392, F392), (414, F414), (412, F412), (413, F413), (419, F419), (417, F417), (418, F418), (606, F606), (766, F766), (774, F774), (764, F764), (605, F605), (609, F609), (612, F612), (613, F613), (533, F533), (772, F772), (767, F767), (775, F775), (441, F441), (336, F336)]
def T : Nat → Option PFunc := tabOf tabl
end Go.Vs.G
