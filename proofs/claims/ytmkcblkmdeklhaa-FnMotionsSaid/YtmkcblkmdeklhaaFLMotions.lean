/- The functions that the law reaches, in the small language, printed by program. No conditions. -/
import Derived.Test.YtmkcblkmdeklhaaDLMotions
import Derived.Test.YtmkcblkmdeklhaaV4
set_option maxRecDepth 100000
open Go Go.Vs
namespace Go.Vs.G
def F277 : PFunc :=
 ⟨[false, false], [.tmp 4],
  (.seq
   (.region [] [] [0, 1] false [
     (none, .asg 4 (.c (.bool false)) .copy)])
   (.seq
    (.seq
     (.region [] [] [0, 1, 5] false [
       (none, .asg 5 (.c (.int .i64 0)) .copy)])
     (.block 0
      (.loop
       (.seq
        (.seq
         (.region [] [] [0, 1, 5, 9] false [
           (none, .mv 6 (.v 5)),
           (none, .mv 7 (.v 0)),
           (none, .len 8 true (.v 7)),
           (none, .bin 9 .lss (.v 6) (.v 8))])
         (.cond (.v 9)
          (.skip [0, 1, 5])
          (.exit 0 [0, 1])))
        (.seq
         (.block 1
          (.seq
           (.region [] [] [0, 1, 5, 21] false [
             (none, .mv 12 (.v 0)),
             (none, .mv 13 (.v 5)),
             (none, .idx 14 (.v 12) (.v 13)),
             (none, .bin 15 .lss (.v 14) (.c (.int .u8 97))),
             (none, .mv 16 (.v 15)),
             (some (16, false), .mv 17 (.v 0)),
             (some (16, false), .mv 18 (.v 5)),
             (some (16, false), .idx 19 (.v 17) (.v 18)),
             (some (16, false), .bin 20 .gtr (.v 19) (.c (.int .u8 122))),
             (none, .pick 21 (.v 16) (.c (.bool true)) (.v 20))])
           (.cond (.v 21)
            (.seq
             (.region [] [] [4] false [
               (none, .asg 4 (.c (.bool false)) .copy)])
             (.ret [4]))
            (.skip [0, 1, 5]))))
         (.region [] [] [0, 1, 5] false [
           (none, .mv 10 (.v 5)),
           (none, .bin 11 .add (.v 10) (.c (.int .i64 1))),
           (none, .asg 5 (.v 11) .copy)]))))))
    (.seq
     (.region [] [] [4] false [
       (none, .mv 22 (.v 0)),
       (none, .len 23 true (.v 22)),
       (none, .bin 24 .geq (.v 23) (.c (.int .i64 1))),
       (none, .mv 25 (.v 24)),
       (some (25, true), .mv 26 (.v 0)),
       (some (25, true), .len 27 true (.v 26)),
       (some (25, true), .mv 28 (.v 1)),
       (some (25, true), .bin 29 .leq (.v 27) (.v 28)),
       (none, .pick 30 (.v 25) (.v 29) (.c (.bool false))),
       (none, .asg 4 (.v 30) .copy)])
     (.ret [4]))))⟩
def F222 : PFunc :=
 ⟨[false], [.tmp 2],
  (.seq
   (.region [] [] [0] false [
     (none, .asg 2 (.c (.bool false)) .copy)])
   (.seq
    (.region [] [] [2] false [
      (none, .mv 3 (.v 0)),
      (none, .call (some 4) 277 false [((.v 3), false), ((.c (.int .i64 24)), false)]),
      (none, .asg 2 (.v 4) .copy)])
    (.ret [2])))⟩
def F833 : PFunc :=
 ⟨[true], [],
  (.seq
   (.region [(4, 0, false)] [] [0, 2, 3] false [
     (none, .mv 4 (.v 0)),
     (none, .len 5 false (.v 4)),
     (none, .bin 6 .sub (.v 5) (.c (.int .i64 1))),
     (none, .asg 2 (.c (.int .i64 0)) .copy),
     (none, .asg 3 (.v 6) .copy)])
   (.block 0
    (.loop
     (.seq
      (.seq
       (.region [] [] [0, 2, 3, 9] false [
         (none, .mv 7 (.v 2)),
         (none, .mv 8 (.v 3)),
         (none, .bin 9 .lss (.v 7) (.v 8))])
       (.cond (.v 9)
        (.skip [0, 2, 3])
        (.exit 0 [0])))
      (.seq
       (.block 1
        (.region [(27, 0, false), (26, 0, false), (24, 0, false), (22, 0, false), (20, 0, false), (18, 0, false), (16, 0, false), (14, 0, false)] [] [0, 2, 3] true [
          (none, .mvr 14 0),
          (none, .mv 15 (.v 2)),
          (none, .mvr 16 0),
          (none, .mv 17 (.v 3)),
          (none, .mvr 18 0),
          (none, .mv 19 (.v 3)),
          (none, .iadr 20 1 (.v 18) (.v 19)),
          (none, .load 21 false 1 (.v 20) none),
          (none, .mvr 22 0),
          (none, .mv 23 (.v 2)),
          (none, .iadr 24 1 (.v 22) (.v 23)),
          (none, .load 25 false 1 (.v 24) none),
          (none, .iadr 26 1 (.v 14) (.v 15)),
          (none, .store 1 (.v 26) (.v 21) .copy),
          (none, .iadr 27 1 (.v 16) (.v 17)),
          (none, .store 1 (.v 27) (.v 25) .copy)]))
       (.region [] [] [0, 2, 3] false [
         (none, .mv 10 (.v 2)),
         (none, .bin 11 .add (.v 10) (.c (.int .i64 1))),
         (none, .mv 12 (.v 3)),
         (none, .bin 13 .sub (.v 12) (.c (.int .i64 1))),
         (none, .asg 2 (.v 11) .copy),
         (none, .asg 3 (.v 13) .copy)]))))))⟩
def F300 : PFunc :=
 ⟨[false], [.tmp 2],
  (.seq
   (.region [] [] [0] false [
     (none, .asg 2 (.c (.str [])) .copy)])
   (.seq
    (.region [] [] [3] false [
      (none, .mv 4 (.v 0)),
      (none, .s2b 5 (.v 4)),
      (none, .asg 3 (.v 5) .move)])
    (.seq
     (.region [(6, 3, false)] [] [3] false [
       (none, .mv 6 (.v 3)),
       (none, .call (some 7) 833 false [((.v 6), true)])])
     (.seq
      (.region [(8, 3, false)] [] [2] false [
        (none, .mv 8 (.v 3)),
        (none, .b2s 9 (.v 8)),
        (none, .asg 2 (.v 9) .copy)])
      (.ret [2])))))⟩
def F45 : PFunc :=
 ⟨[false], [.tmp 2, .tmp 3],
  (.seq
   (.region [] [] [0] false [
     (none, .asg 2 (.c (.str [])) .copy),
     (none, .asg 3 (.c (.int .i64 0)) .copy)])
   (.seq
    (.seq
     (.region [] [] [0, 6] false [
       (none, .mv 4 (.v 0)),
       (none, .call (some 5) 222 false [((.v 4), false)]),
       (none, .un 6 .not (.v 5))])
     (.cond (.v 6)
      (.seq
       (.region [] [] [2, 3] false [
         (none, .asg 2 (.c (.str [])) .copy),
         (none, .asg 3 (.c (.int .i64 1)) .copy)])
       (.ret [2, 3]))
      (.skip [0])))
    (.seq
     (.region [] [] [2, 3] false [
       (none, .mv 7 (.v 0)),
       (none, .call (some 8) 300 false [((.v 7), false)]),
       (none, .asg 2 (.v 8) .copy),
       (none, .asg 3 (.c (.int .i64 0)) .copy)])
     (.ret [2, 3]))))⟩
def F62 : PFunc :=
 ⟨[false], [.tmp 2, .tmp 3],
  (.seq
   (.region [] [] [0] false [
     (none, .asg 2 (.c (.int .i64 0)) .copy),
     (none, .asg 3 (.c (.int .i64 0)) .copy)])
   (.seq
    (.seq
     (.region [] [] [0, 8] false [
       (none, .mv 6 (.v 0)),
       (none, .call (some 7) 222 false [((.v 6), false)]),
       (none, .un 8 .not (.v 7))])
     (.cond (.v 8)
      (.seq
       (.region [] [] [2, 3] false [
         (none, .asg 2 (.c (.int .i64 0)) .copy),
         (none, .asg 3 (.c (.int .i64 1)) .copy)])
       (.ret [2, 3]))
      (.skip [0])))
    (.seq
     (.region [] [] [0, 4] false [
       (none, .asg 4 (.c (.int .i64 0)) .copy)])
     (.seq
      (.seq
       (.region [] [] [0, 4, 10, 11] false [
         (none, .mv 9 (.v 0)),
         (none, .len 10 true (.v 9)),
         (none, .mv 11 (.c (.int .i64 0)))])
       (.block 0
        (.loop
         (.seq
          (.region [] [] [0, 4, 10, 11, 12] false [
            (none, .bin 12 .lss (.v 11) (.v 10))])
          (.seq
           (.cond (.v 12)
            (.skip [0, 4, 10, 11])
            (.exit 0 [4]))
           (.seq
            (.block 1
             (.seq
              (.region [] [] [0, 4, 5, 10, 11] false [
                (none, .mv 13 (.v 11)),
                (none, .asg 5 (.v 13) .copy)])
              (.seq
               (.region [] [] [0, 4, 10, 11, 24] true [
                 (none, .mv 14 (.v 0)),
                 (none, .mv 15 (.v 5)),
                 (none, .idx 16 (.v 14) (.v 15)),
                 (none, .mv 17 (.v 0)),
                 (none, .mv 18 (.v 5)),
                 (none, .bin 19 .add (.v 18) (.c (.int .i64 1))),
                 (none, .mv 20 (.v 0)),
                 (none, .len 21 true (.v 20)),
                 (none, .bin 22 .rem (.v 19) (.v 21)),
                 (none, .idx 23 (.v 17) (.v 22)),
                 (none, .bin 24 .neq (.v 16) (.v 23))])
               (.cond (.v 24)
                (.region [] [] [0, 4, 10, 11] false [
                  (none, .mv 25 (.v 4)),
                  (none, .bin 26 .add (.v 25) (.c (.int .i64 1))),
                  (none, .asg 4 (.v 26) .copy)])
                (.skip [0, 4, 10, 11])))))
            (.region [] [] [0, 4, 10, 11] false [
              (none, .bin 27 .add (.v 11) (.c (.int .i64 1))),
              (none, .mv 11 (.v 27))])))))))
      (.seq
       (.region [] [] [2, 3] false [
         (none, .mv 28 (.v 4)),
         (none, .asg 2 (.v 28) .copy),
         (none, .asg 3 (.c (.int .i64 0)) .copy)])
       (.ret [2, 3]))))))⟩
def F320 : PFunc :=
 ⟨[false, false], [.tmp 4],
  (.seq
   (.region [] [] [0, 1] false [
     (none, .asg 4 (.c (.str [])) .copy)])
   (.seq
    (.region [] [] [4] true [
      (none, .mv 5 (.v 0)),
      (none, .mv 6 (.v 1)),
      (none, .slc 7 true 0 (.v 5) (some (.v 6)) none .copy),
      (none, .mv 8 (.v 0)),
      (none, .mv 9 (.v 1)),
      (none, .slc 10 true 0 (.v 8) none (some (.v 9)) .copy),
      (none, .bin 11 .add (.v 7) (.v 10)),
      (none, .asg 4 (.v 11) .copy)])
    (.ret [4])))⟩
def F96 : PFunc :=
 ⟨[false], [.tmp 2, .tmp 3],
  (.seq
   (.region [] [] [0] false [
     (none, .asg 2 (.c (.str [])) .copy),
     (none, .asg 3 (.c (.int .i64 0)) .copy)])
   (.seq
    (.seq
     (.region [] [] [0, 8] false [
       (none, .mv 6 (.v 0)),
       (none, .call (some 7) 222 false [((.v 6), false)]),
       (none, .un 8 .not (.v 7))])
     (.cond (.v 8)
      (.seq
       (.region [] [] [2, 3] false [
         (none, .asg 2 (.c (.str [])) .copy),
         (none, .asg 3 (.c (.int .i64 1)) .copy)])
       (.ret [2, 3]))
      (.skip [0])))
    (.seq
     (.region [] [] [0, 4] false [
       (none, .mv 9 (.v 0)),
       (none, .asg 4 (.v 9) .copy)])
     (.seq
      (.seq
       (.region [] [] [0, 4, 11] false [
         (none, .mv 10 (.v 0)),
         (none, .rng 11 (.v 10))])
       (.block 0
        (.loop
         (.seq
          (.region [] [] [0, 4, 11, 12, 13] false [
            (none, .rnx 12 11),
            (none, .extp 13 (.v 12) 0)])
          (.seq
           (.cond (.v 13)
            (.skip [0, 4, 11, 12])
            (.exit 0 [4]))
           (.block 1
            (.seq
             (.region [] [] [0, 4, 5, 11] false [
               (none, .extp 14 (.v 12) 1),
               (none, .asg 5 (.v 14) .copy)])
             (.region [] [] [0, 4, 11] false [
               (none, .mv 15 (.v 4)),
               (none, .mv 16 (.v 0)),
               (none, .mv 17 (.v 5)),
               (none, .call (some 18) 320 false [((.v 16), false), ((.v 17), false)]),
               (none, .mm 19 false (.v 15) [(.v 18)]),
               (none, .asg 4 (.v 19) .copy)]))))))))
      (.seq
       (.region [] [] [2, 3] false [
         (none, .mv 20 (.v 4)),
         (none, .asg 2 (.v 20) .copy),
         (none, .asg 3 (.c (.int .i64 0)) .copy)])
       (.ret [2, 3]))))))⟩
def F302 : PFunc :=
 ⟨[false, false], [.tmp 4],
  (.seq
   (.region [] [] [0, 1] false [
     (none, .asg 4 (.c (.bool false)) .copy)])
   (.seq
    (.seq
     (.region [] [] [0, 1, 10] false [
       (none, .mv 6 (.v 0)),
       (none, .len 7 true (.v 6)),
       (none, .mv 8 (.v 1)),
       (none, .len 9 true (.v 8)),
       (none, .bin 10 .neq (.v 7) (.v 9))])
     (.cond (.v 10)
      (.seq
       (.region [] [] [4] false [
         (none, .asg 4 (.c (.bool false)) .copy)])
       (.ret [4]))
      (.skip [0, 1])))
    (.seq
     (.seq
      (.region [] [] [0, 1, 12] false [
        (none, .mv 11 (.v 0)),
        (none, .rng 12 (.v 11))])
      (.block 0
       (.loop
        (.seq
         (.region [] [] [0, 1, 12, 13, 14] false [
           (none, .rnx 13 12),
           (none, .extp 14 (.v 13) 0)])
         (.seq
          (.cond (.v 14)
           (.skip [0, 1, 12, 13])
           (.exit 0 []))
          (.block 1
           (.seq
            (.region [] [] [0, 1, 5, 12] false [
              (none, .extp 15 (.v 13) 1),
              (none, .asg 5 (.v 15) .copy)])
            (.seq
             (.region [] [] [0, 1, 12, 20] false [
               (none, .mv 16 (.v 0)),
               (none, .mv 17 (.v 5)),
               (none, .call (some 18) 320 false [((.v 16), false), ((.v 17), false)]),
               (none, .mv 19 (.v 1)),
               (none, .bin 20 .eql (.v 18) (.v 19))])
             (.cond (.v 20)
              (.seq
               (.region [] [] [4] false [
                 (none, .asg 4 (.c (.bool true)) .copy)])
               (.ret [4]))
              (.skip [0, 1, 12]))))))))))
     (.seq
      (.region [] [] [4] false [
        (none, .asg 4 (.c (.bool false)) .copy)])
      (.ret [4])))))⟩
def F141 : PFunc :=
 ⟨[false], [.tmp 2, .tmp 3],
  (.seq
   (.region [] [] [0] false [
     (none, .asg 2 (.c (.bool false)) .copy),
     (none, .asg 3 (.c (.int .i64 0)) .copy)])
   (.seq
    (.seq
     (.region [] [] [0, 6] false [
       (none, .mv 4 (.v 0)),
       (none, .call (some 5) 222 false [((.v 4), false)]),
       (none, .un 6 .not (.v 5))])
     (.cond (.v 6)
      (.seq
       (.region [] [] [2, 3] false [
         (none, .asg 2 (.c (.bool false)) .copy),
         (none, .asg 3 (.c (.int .i64 1)) .copy)])
       (.ret [2, 3]))
      (.skip [0])))
    (.seq
     (.region [] [] [2, 3] false [
       (none, .mv 7 (.v 0)),
       (none, .mv 8 (.v 0)),
       (none, .call (some 9) 300 false [((.v 8), false)]),
       (none, .call (some 10) 302 false [((.v 7), false), ((.v 9), false)]),
       (none, .asg 2 (.v 10) .copy),
       (none, .asg 3 (.c (.int .i64 0)) .copy)])
     (.ret [2, 3]))))⟩
def F160 : PFunc :=
 ⟨[false], [.tmp 2, .tmp 3],
  (.seq
   (.region [] [] [0] false [
     (none, .asg 2 (.c (.int .i64 0)) .copy),
     (none, .asg 3 (.c (.int .i64 0)) .copy)])
   (.seq
    (.seq
     (.region [] [] [0, 7] false [
       (none, .mv 5 (.v 0)),
       (none, .call (some 6) 222 false [((.v 5), false)]),
       (none, .un 7 .not (.v 6))])
     (.cond (.v 7)
      (.seq
       (.region [] [] [2, 3] false [
         (none, .asg 2 (.c (.int .i64 0)) .copy),
         (none, .asg 3 (.c (.int .i64 1)) .copy)])
       (.ret [2, 3]))
      (.skip [0])))
    (.seq
     (.region [] [] [0, 4] false [
       (none, .asg 4 (.c (.int .i64 1)) .copy)])
     (.seq
      (.block 0
       (.loop
        (.seq
         (.seq
          (.region [] [] [0, 4, 22] false [
            (none, .mv 8 (.v 0)),
            (none, .len 9 true (.v 8)),
            (none, .mv 10 (.v 4)),
            (none, .bin 11 .rem (.v 9) (.v 10)),
            (none, .bin 12 .neq (.v 11) (.c (.int .i64 0))),
            (none, .mv 13 (.v 12)),
            (some (13, false), .mv 14 (.v 0)),
            (some (13, false), .mv 15 (.v 4)),
            (some (13, false), .mv 16 (.v 0)),
            (some (13, false), .len 17 true (.v 16)),
            (some (13, false), .bin 18 .rem (.v 15) (.v 17)),
            (some (13, false), .call (some 19) 320 false [((.v 14), false), ((.v 18), false)]),
            (some (13, false), .mv 20 (.v 0)),
            (some (13, false), .bin 21 .neq (.v 19) (.v 20)),
            (none, .pick 22 (.v 13) (.c (.bool true)) (.v 21))])
          (.cond (.v 22)
           (.skip [0, 4])
           (.exit 0 [4])))
         (.block 1
          (.region [] [] [0, 4] false [
            (none, .mv 23 (.v 4)),
            (none, .bin 24 .add (.v 23) (.c (.int .i64 1))),
            (none, .asg 4 (.v 24) .copy)])))))
      (.seq
       (.region [] [] [2, 3] false [
         (none, .mv 25 (.v 4)),
         (none, .asg 2 (.v 25) .copy),
         (none, .asg 3 (.c (.int .i64 0)) .copy)])
       (.ret [2, 3]))))))⟩
def F171 : PFunc :=
 ⟨[false, false], [.tmp 4, .tmp 5],
  (.seq
   (.region [] [] [0, 1] false [
     (none, .asg 4 (.c (.bool false)) .copy),
     (none, .asg 5 (.c (.int .i64 0)) .copy)])
   (.seq
    (.seq
     (.region [] [] [0, 1, 13] false [
       (none, .mv 6 (.v 0)),
       (none, .call (some 7) 222 false [((.v 6), false)]),
       (none, .un 8 .not (.v 7)),
       (none, .mv 9 (.v 8)),
       (some (9, false), .mv 10 (.v 1)),
       (some (9, false), .call (some 11) 222 false [((.v 10), false)]),
       (some (9, false), .un 12 .not (.v 11)),
       (none, .pick 13 (.v 9) (.c (.bool true)) (.v 12))])
     (.cond (.v 13)
      (.seq
       (.region [] [] [4, 5] false [
         (none, .asg 4 (.c (.bool false)) .copy),
         (none, .asg 5 (.c (.int .i64 1)) .copy)])
       (.ret [4, 5]))
      (.skip [0, 1])))
    (.seq
     (.region [] [] [4, 5] false [
       (none, .mv 14 (.v 0)),
       (none, .mv 15 (.v 1)),
       (none, .call (some 16) 302 false [((.v 14), false), ((.v 15), false)]),
       (none, .asg 4 (.v 16) .copy),
       (none, .asg 5 (.c (.int .i64 0)) .copy)])
     (.ret [4, 5]))))⟩
def F384 : PFunc :=
 ⟨[false, false, false], [.tmp 6],
  (.seq
   (.region [] [] [0, 1, 2] false [
     (none, .asg 6 (.c (.int .i64 0)) .copy)])
   (.seq
    (.seq
     (.region [(8, 0, false)] [] [0, 1, 2, 14] false [
       (none, .mv 7 (.v 1)),
       (none, .mv 8 (.v 0)),
       (none, .len 9 false (.v 8)),
       (none, .bin 10 .geq (.v 7) (.v 9)),
       (none, .mv 11 (.v 10)),
       (some (11, false), .mv 12 (.v 2)),
       (some (11, false), .bin 13 .lss (.v 12) (.c (.int .i64 1))),
       (none, .pick 14 (.v 11) (.c (.bool true)) (.v 13))])
     (.cond (.v 14)
      (.seq
       (.region [] [] [6] false [
         (none, .asg 6 (.c (.int .i64 0)) .copy)])
       (.ret [6]))
      (.skip [0, 1, 2])))
    (.seq
     (.region [(17, 0, false), (15, 0, false)] [] [6] false [
       (none, .mv 15 (.v 0)),
       (none, .mv 16 (.v 1)),
       (none, .iadr 17 1 (.v 15) (.v 16)),
       (none, .load 18 false 1 (.v 17) none),
       (none, .conv 19 .i64 (.v 18)),
       (none, .mv 20 (.v 2)),
       (none, .bin 21 .rem (.v 19) (.v 20)),
       (none, .asg 6 (.v 21) .copy)])
     (.ret [6]))))⟩
def F386 : PFunc :=
 ⟨[false, false], [.tmp 4],
  (.seq
   (.region [] [] [0, 1] false [
     (none, .asg 4 (.c (.bool false)) .copy)])
   (.seq
    (.region [(9, 1, false), (5, 0, false)] [] [4] false [
      (none, .mv 5 (.v 0)),
      (none, .len 6 false (.v 5)),
      (none, .bin 7 .gtr (.v 6) (.c (.int .i64 3000))),
      (none, .mv 8 (.v 7)),
      (some (8, false), .mv 9 (.v 1)),
      (some (8, false), .len 10 false (.v 9)),
      (some (8, false), .bin 11 .gtr (.v 10) (.c (.int .i64 3000))),
      (none, .pick 12 (.v 8) (.c (.bool true)) (.v 11)),
      (none, .asg 4 (.v 12) .copy)])
    (.ret [4])))⟩
def F603 : PFunc :=
 ⟨[false], [.tmp 2],
  (.seq
   (.region [] [] [0] false [
     (none, .asg 2 (.c .nilp) .copy)])
   (.seq
    (.region [(3, 0, false)] [] [2] false [
      (none, .mv 3 (.v 0)),
      (none, .build 4 [(.sl false 1 []), (.int .i64 0), (.int .u64 0)] [(0, 1, (.v 3), .move)]),
      (none, .box 5 (.v 4) .move),
      (none, .asg 2 (.v 5) .move)])
    (.ret [2])))⟩
def F5 : PFunc :=
 ⟨[true], [.tmp 2],
  (.seq
   (.region [] [] [0] false [
     (none, .asg 2 (.c (.int .i64 0)) .copy)])
   (.seq
    (.region [] [] [0, 3] false [
      (none, .asg 3 (.c (.int .i64 0)) .copy)])
    (.seq
     (.seq
      (.region [(11, 0, true), (10, 0, false), (9, 0, false), (8, 0, false), (6, 0, false), (5, 0, false), (4, 0, false)] [] [0, 3, 13] true [
        (none, .mvr 4 0),
        (none, .nchk 5 (.v 4)),
        (none, .fadr 6 1 1 (.v 5)),
        (none, .load 7 false 1 (.v 6) none),
        (none, .mvr 8 0),
        (none, .nchk 9 (.v 8)),
        (none, .fadr 10 0 1 (.v 9)),
        (none, .load 11 false 1 (.v 10) none),
        (none, .len 12 false (.v 11)),
        (none, .bin 13 .lss (.v 7) (.v 12))])
      (.cond (.v 13)
       (.region [(22, 0, true), (20, 0, false), (19, 0, false), (18, 0, false), (17, 0, true), (16, 0, false), (15, 0, false), (14, 0, false)] [] [0, 3] true [
         (none, .mvr 14 0),
         (none, .nchk 15 (.v 14)),
         (none, .fadr 16 0 1 (.v 15)),
         (none, .load 17 false 1 (.v 16) none),
         (none, .mvr 18 0),
         (none, .nchk 19 (.v 18)),
         (none, .fadr 20 1 1 (.v 19)),
         (none, .load 21 false 1 (.v 20) none),
         (none, .iadr 22 1 (.v 17) (.v 21)),
         (none, .load 23 false 1 (.v 22) none),
         (none, .conv 24 .i64 (.v 23)),
         (none, .asg 3 (.v 24) .copy)])
       (.skip [0, 3])))
     (.seq
      (.region [(31, 0, false), (30, 0, false), (27, 0, false), (26, 0, false), (25, 0, false)] [] [0, 3] false [
        (none, .mv 25 (.v 0)),
        (none, .nchk 26 (.v 25)),
        (none, .fadr 27 1 1 (.v 26)),
        (none, .load 28 false 1 (.v 27) none),
        (none, .bin 29 .add (.v 28) (.c (.int .i64 1))),
        (none, .nchk 30 (.v 25)),
        (none, .fadr 31 1 1 (.v 30)),
        (none, .store 1 (.v 31) (.v 29) .copy)])
      (.seq
       (.region [(43, 0, false), (42, 0, false), (35, 0, false), (34, 0, false), (33, 0, false), (32, 0, false)] [] [0, 3] false [
         (none, .mv 32 (.v 0)),
         (none, .mv 33 (.v 0)),
         (none, .nchk 34 (.v 33)),
         (none, .fadr 35 2 1 (.v 34)),
         (none, .load 36 false 1 (.v 35) none),
         (none, .bin 37 .mul (.v 36) (.c (.int .u64 6364136223846793005))),
         (none, .mv 38 (.v 3)),
         (none, .conv 39 .u64 (.v 38)),
         (none, .bin 40 .add (.v 37) (.v 39)),
         (none, .bin 41 .add (.v 40) (.c (.int .u64 1442695040888963407))),
         (none, .nchk 42 (.v 32)),
         (none, .fadr 43 2 1 (.v 42)),
         (none, .store 1 (.v 43) (.v 41) .copy)])
       (.seq
        (.seq
         (.region [(51, 0, true), (50, 0, false), (49, 0, false), (48, 0, false), (46, 0, false), (45, 0, false), (44, 0, false)] [] [0, 3, 53] true [
           (none, .mvr 44 0),
           (none, .nchk 45 (.v 44)),
           (none, .fadr 46 1 1 (.v 45)),
           (none, .load 47 false 1 (.v 46) none),
           (none, .mvr 48 0),
           (none, .nchk 49 (.v 48)),
           (none, .fadr 50 0 1 (.v 49)),
           (none, .load 51 false 1 (.v 50) none),
           (none, .len 52 false (.v 51)),
           (none, .bin 53 .leq (.v 47) (.v 52))])
         (.cond (.v 53)
          (.seq
           (.region [] [] [0, 2] false [
             (none, .mv 54 (.v 3)),
             (none, .asg 2 (.v 54) .copy)])
           (.ret [0, 2]))
          (.skip [0])))
        (.seq
         (.region [(57, 0, false), (56, 0, false), (55, 0, false)] [] [0, 2] false [
           (none, .mv 55 (.v 0)),
           (none, .nchk 56 (.v 55)),
           (none, .fadr 57 2 1 (.v 56)),
           (none, .load 58 false 1 (.v 57) none),
           (none, .bin 59 .shr (.v 58) (.c (.int .u64 40))),
           (none, .bin 60 .and (.v 59) (.c (.int .u64 255))),
           (none, .conv 61 .i64 (.v 60)),
           (none, .asg 2 (.v 61) .copy)])
         (.ret [0, 2]))))))))⟩
def F7 : PFunc :=
 ⟨[true, false], [.tmp 4],
  (.seq
   (.region [] [] [0, 1] false [
     (none, .asg 4 (.c (.int .i64 0)) .copy)])
   (.seq
    (.seq
     (.region [] [] [0, 1, 7] false [
       (none, .mv 6 (.v 1)),
       (none, .bin 7 .leq (.v 6) (.c (.int .i64 1)))])
     (.cond (.v 7)
      (.seq
       (.region [] [] [0, 4] false [
         (none, .asg 4 (.c (.int .i64 0)) .copy)])
       (.ret [0, 4]))
      (.skip [0, 1])))
    (.seq
     (.region [(8, 0, false)] [] [0, 1, 5] false [
       (none, .mv 8 (.v 0)),
       (none, .call (some 9) 5 true [((.v 8), true)]),
       (none, .asg 5 (.v 9) .copy)])
     (.seq
      (.seq
       (.region [] [] [0, 1, 5, 11] false [
         (none, .mv 10 (.v 1)),
         (none, .bin 11 .gtr (.v 10) (.c (.int .i64 200)))])
       (.cond (.v 11)
        (.region [(14, 0, false)] [] [0, 1, 5] false [
          (none, .mv 12 (.v 5)),
          (none, .bin 13 .mul (.v 12) (.c (.int .i64 256))),
          (none, .mv 14 (.v 0)),
          (none, .call (some 15) 5 true [((.v 14), true)]),
          (none, .bin 16 .add (.v 13) (.v 15)),
          (none, .asg 5 (.v 16) .copy)])
        (.skip [0, 1, 5])))
      (.seq
       (.region [] [] [0, 4] false [
         (none, .mv 17 (.v 5)),
         (none, .mv 18 (.v 1)),
         (none, .bin 19 .rem (.v 17) (.v 18)),
         (none, .asg 4 (.v 19) .copy)])
       (.ret [0, 4]))))))⟩
def F602 : PFunc :=
 ⟨[false, false], [.tmp 4],
  (.seq
   (.region [] [] [0, 1] false [
     (none, .asg 4 (.c (.int .i64 0)) .copy)])
   (.seq
    (.region [] [] [0, 1, 5] false [
      (none, .mv 6 (.v 0)),
      (none, .mv 7 (.v 1)),
      (none, .bin 8 .quo (.v 6) (.v 7)),
      (none, .asg 5 (.v 8) .copy)])
    (.seq
     (.seq
      (.region [] [] [5, 12] false [
        (none, .mv 9 (.v 0)),
        (none, .mv 10 (.v 1)),
        (none, .bin 11 .rem (.v 9) (.v 10)),
        (none, .bin 12 .lss (.v 11) (.c (.int .i64 0)))])
      (.cond (.v 12)
       (.region [] [] [5] false [
         (none, .mv 13 (.v 5)),
         (none, .bin 14 .sub (.v 13) (.c (.int .i64 1))),
         (none, .asg 5 (.v 14) .copy)])
       (.skip [5])))
     (.seq
      (.region [] [] [4] false [
        (none, .mv 15 (.v 5)),
        (none, .asg 4 (.v 15) .copy)])
      (.ret [4])))))⟩
def F610 : PFunc :=
 ⟨[false, false], [.tmp 4],
  (.seq
   (.region [] [] [0, 1] false [
     (none, .asg 4 (.c (.int .i64 0)) .copy)])
   (.seq
    (.region [] [] [4] false [
      (none, .mv 5 (.v 0)),
      (none, .bin 6 .mul (.c (.int .i64 2)) (.v 5)),
      (none, .mv 7 (.v 1)),
      (none, .bin 8 .add (.v 6) (.v 7)),
      (none, .mv 9 (.v 1)),
      (none, .bin 10 .mul (.c (.int .i64 2)) (.v 9)),
      (none, .call (some 11) 602 false [((.v 8), false), ((.v 10), false)]),
      (none, .asg 4 (.v 11) .copy)])
    (.ret [4])))⟩
def F621 : PFunc :=
 ⟨[false, false, false], [.tmp 6],
  (.seq
   (.region [] [] [0, 1, 2] false [
     (none, .asg 6 (.c (.int .i64 0)) .copy)])
   (.seq
    (.region [] [] [6] false [
      (none, .mv 7 (.v 2)),
      (none, .mv 8 (.v 0)),
      (none, .bin 9 .mul (.v 7) (.v 8)),
      (none, .mv 10 (.v 1)),
      (none, .call (some 11) 610 false [((.v 9), false), ((.v 10), false)]),
      (none, .asg 6 (.v 11) .copy)])
    (.ret [6])))⟩
def F623 : PFunc :=
 ⟨[false, false, false], [.tmp 6],
  (.seq
   (.region [] [] [0, 1, 2] false [
     (none, .asg 6 (.c (.int .i64 0)) .copy)])
   (.seq
    (.region [] [] [6] false [
      (none, .mv 7 (.v 0)),
      (none, .mv 8 (.v 1)),
      (none, .mv 9 (.v 2)),
      (none, .call (some 10) 621 false [((.v 7), false), ((.v 8), false), ((.v 9), false)]),
      (none, .mv 11 (.v 0)),
      (none, .bin 12 .rem (.v 10) (.v 11)),
      (none, .asg 6 (.v 12) .copy)])
    (.ret [6])))⟩
def F644 : PFunc :=
 ⟨[false, false], [.tmp 4],
  (.seq
   (.region [] [] [0, 1] false [
     (none, .asg 4 (.c (.str [])) .copy)])
   (.seq
    (.region [] [] [0, 1, 5] false [
      (none, .mksl 7 1 (.int .u8 0) 0 []),
      (none, .asg 5 (.v 7) .move)])
    (.seq
     (.seq
      (.region [] [] [0, 1, 5, 6] false [
        (none, .asg 6 (.c (.int .i64 0)) .copy)])
      (.block 0
       (.loop
        (.seq
         (.seq
          (.region [] [] [0, 1, 5, 6, 10] false [
            (none, .mv 8 (.v 6)),
            (none, .mv 9 (.v 1)),
            (none, .bin 10 .lss (.v 8) (.v 9))])
          (.cond (.v 10)
           (.skip [0, 1, 5, 6])
           (.exit 0 [5])))
         (.seq
          (.block 1
           (.region [(13, 5, false)] [] [0, 1, 5, 6] false [
             (none, .mv 13 (.v 5)),
             (none, .mv 14 (.v 0)),
             (none, .mv 15 (.v 0)),
             (none, .len 16 true (.v 15)),
             (none, .mv 17 (.v 1)),
             (none, .mv 18 (.v 6)),
             (none, .call (some 19) 623 false [((.v 16), false), ((.v 17), false), ((.v 18), false)]),
             (none, .idx 20 (.v 14) (.v 19)),
             (none, .mksl 21 1 (.int .u8 0) 1 [(0, (.v 20), .copy)]),
             (none, .app 22 1 (.v 13) (.v 21) .move),
             (none, .asg 5 (.v 22) .move)]))
          (.region [] [] [0, 1, 5, 6] false [
            (none, .mv 11 (.v 6)),
            (none, .bin 12 .add (.v 11) (.c (.int .i64 1))),
            (none, .asg 6 (.v 12) .copy)]))))))
     (.seq
      (.region [(23, 5, false)] [] [4] false [
        (none, .mv 23 (.v 5)),
        (none, .b2s 24 (.v 23)),
        (none, .asg 4 (.v 24) .copy)])
      (.ret [4])))))⟩
def F642 : PFunc :=
 ⟨[true], [.tmp 2],
  (.seq
   (.region [] [] [0] false [
     (none, .asg 2 (.c (.str [])) .copy)])
   (.seq
    (.region [] [] [0, 3] false [
      (none, .mksl 6 1 (.int .u8 0) 0 []),
      (none, .asg 3 (.v 6) .move)])
    (.seq
     (.seq
      (.region [(7, 0, false)] [] [0, 3, 4] false [
        (none, .mv 7 (.v 0)),
        (none, .call (some 8) 7 true [((.v 7), true), ((.c (.int .i64 6)), false)]),
        (none, .bin 9 .add (.c (.int .i64 1)) (.v 8)),
        (none, .asg 4 (.v 9) .copy)])
      (.block 0
       (.loop
        (.seq
         (.seq
          (.region [] [] [0, 3, 4, 11] false [
            (none, .mv 10 (.v 4)),
            (none, .bin 11 .gtr (.v 10) (.c (.int .i64 0)))])
          (.cond (.v 11)
           (.skip [0, 3, 4])
           (.exit 0 [0, 3])))
         (.seq
          (.block 1
           (.region [(15, 0, false), (14, 3, false)] [] [0, 3, 4] false [
             (none, .mv 14 (.v 3)),
             (none, .mv 15 (.v 0)),
             (none, .call (some 16) 7 true [((.v 15), true), ((.c (.int .i64 3)), false)]),
             (none, .idx 17 (.c (.str [97, 98, 99])) (.v 16)),
             (none, .mksl 18 1 (.int .u8 0) 1 [(0, (.v 17), .copy)]),
             (none, .app 19 1 (.v 14) (.v 18) .move),
             (none, .asg 3 (.v 19) .move)]))
          (.region [] [] [0, 3, 4] false [
            (none, .mv 12 (.v 4)),
            (none, .bin 13 .sub (.v 12) (.c (.int .i64 1))),
            (none, .asg 4 (.v 13) .copy)]))))))
     (.seq
      (.region [(20, 3, false)] [] [0, 5] false [
        (none, .mv 20 (.v 3)),
        (none, .b2s 21 (.v 20)),
        (none, .asg 5 (.v 21) .copy)])
      (.seq
       (.seq
        (.region [(22, 0, false)] [] [0, 5, 23] false [
          (none, .mv 22 (.v 0)),
          (none, .call (some 23) 7 true [((.v 22), true), ((.c (.int .i64 4)), false)])])
        (.block 2
         (.seq
          (.region [] [] [0, 5, 23, 24] false [
            (none, .bin 25 .eql (.v 23) (.c (.int .i64 0))),
            (none, .asg 24 (.v 25) .copy)])
          (.cond (.v 24)
           (.region [] [] [0, 5] false [
             (none, .mv 26 (.v 5)),
             (none, .mv 27 (.v 5)),
             (none, .bin 28 .add (.v 26) (.v 27)),
             (none, .asg 5 (.v 28) .copy)])
           (.seq
            (.region [] [] [0, 5, 29] false [
              (none, .bin 30 .eql (.v 23) (.c (.int .i64 1))),
              (none, .asg 29 (.v 30) .copy)])
            (.cond (.v 29)
             (.seq
              (.region [(32, 0, false)] [] [0, 2] false [
                (none, .mv 31 (.v 5)),
                (none, .mv 32 (.v 0)),
                (none, .call (some 33) 7 true [((.v 32), true), ((.c (.int .i64 12)), false)]),
                (none, .bin 34 .add (.c (.int .i64 1)) (.v 33)),
                (none, .call (some 35) 644 false [((.v 31), false), ((.v 34), false)]),
                (none, .asg 2 (.v 35) .copy)])
              (.ret [0, 2]))
             (.skip [0, 5])))))))
       (.seq
        (.region [] [] [0, 2] false [
          (none, .mv 36 (.v 5)),
          (none, .asg 2 (.v 36) .copy)])
        (.ret [0, 2])))))))⟩
def F429 : PFunc :=
 ⟨[false], [.tmp 2],
  (.seq
   (.region [] [] [0] false [
     (none, .asg 2 (.c (.str [])) .copy)])
   (.seq
    (.region [(3, 0, false)] [] [2] false [
      (none, .mv 3 (.v 0)),
      (none, .call (some 4) 603 true [((.v 3), false)]),
      (none, .call (some 5) 642 true [((.v 4), true)]),
      (none, .asg 2 (.v 5) .copy)])
    (.ret [2])))⟩
def F605 : PFunc :=
 ⟨[false, false, false], [.tmp 6],
  (.seq
   (.region [] [] [0, 1, 2] false [
     (none, .asg 6 (.c (.bool false)) .copy)])
   (.seq
    (.region [] [] [6] false [
      (none, .mv 7 (.v 0)),
      (none, .mv 8 (.v 1)),
      (none, .bin 9 .geq (.v 7) (.v 8)),
      (none, .mv 10 (.v 9)),
      (some (10, true), .mv 11 (.v 0)),
      (some (10, true), .mv 12 (.v 2)),
      (some (10, true), .bin 13 .leq (.v 11) (.v 12)),
      (none, .pick 14 (.v 10) (.v 13) (.c (.bool false))),
      (none, .asg 6 (.v 14) .copy)])
    (.ret [6])))⟩
def F645 : PFunc :=
 ⟨[false], [.tmp 2],
  (.seq
   (.region [] [] [0] false [
     (none, .asg 2 (.c (.bool false)) .copy)])
   (.seq
    (.seq
     (.region [] [] [0, 3] false [
       (none, .asg 3 (.c (.int .i64 0)) .copy)])
     (.block 0
      (.loop
       (.seq
        (.seq
         (.region [] [] [0, 3, 7] false [
           (none, .mv 4 (.v 3)),
           (none, .mv 5 (.v 0)),
           (none, .len 6 true (.v 5)),
           (none, .bin 7 .lss (.v 4) (.v 6))])
         (.cond (.v 7)
          (.skip [0, 3])
          (.exit 0 [0])))
        (.seq
         (.block 1
          (.seq
           (.region [] [] [0, 3, 19] false [
             (none, .mv 10 (.v 0)),
             (none, .mv 11 (.v 3)),
             (none, .idx 12 (.v 10) (.v 11)),
             (none, .bin 13 .lss (.v 12) (.c (.int .u8 97))),
             (none, .mv 14 (.v 13)),
             (some (14, false), .mv 15 (.v 0)),
             (some (14, false), .mv 16 (.v 3)),
             (some (14, false), .idx 17 (.v 15) (.v 16)),
             (some (14, false), .bin 18 .gtr (.v 17) (.c (.int .u8 122))),
             (none, .pick 19 (.v 14) (.c (.bool true)) (.v 18))])
           (.cond (.v 19)
            (.seq
             (.region [] [] [2] false [
               (none, .asg 2 (.c (.bool false)) .copy)])
             (.ret [2]))
            (.skip [0, 3]))))
         (.region [] [] [0, 3] false [
           (none, .mv 8 (.v 3)),
           (none, .bin 9 .add (.v 8) (.c (.int .i64 1))),
           (none, .asg 3 (.v 9) .copy)]))))))
    (.seq
     (.region [] [] [2] false [
       (none, .mv 20 (.v 0)),
       (none, .len 21 true (.v 20)),
       (none, .call (some 22) 605 false [((.v 21), false), ((.c (.int .i64 1)), false), ((.c (.int .i64 24)), false)]),
       (none, .asg 2 (.v 22) .copy)])
     (.ret [2]))))⟩
def F647 : PFunc :=
 ⟨[false, false], [.tmp 4],
  (.seq
   (.region [] [] [0, 1] false [
     (none, .asg 4 (.c (.str [])) .copy)])
   (.seq
    (.region [] [] [4] true [
      (none, .mv 5 (.v 0)),
      (none, .mv 6 (.v 1)),
      (none, .slc 7 true 0 (.v 5) (some (.v 6)) none .copy),
      (none, .mv 8 (.v 0)),
      (none, .mv 9 (.v 1)),
      (none, .slc 10 true 0 (.v 8) none (some (.v 9)) .copy),
      (none, .bin 11 .add (.v 7) (.v 10)),
      (none, .asg 4 (.v 11) .copy)])
    (.ret [4])))⟩
def F646 : PFunc :=
 ⟨[false, false], [.tmp 4],
  (.seq
   (.region [] [] [0, 1] false [
     (none, .asg 4 (.c (.bool false)) .copy)])
   (.seq
    (.seq
     (.region [] [] [0, 1, 10] false [
       (none, .mv 6 (.v 0)),
       (none, .len 7 true (.v 6)),
       (none, .mv 8 (.v 1)),
       (none, .len 9 true (.v 8)),
       (none, .bin 10 .neq (.v 7) (.v 9))])
     (.cond (.v 10)
      (.seq
       (.region [] [] [4] false [
         (none, .asg 4 (.c (.bool false)) .copy)])
       (.ret [4]))
      (.skip [0, 1])))
    (.seq
     (.seq
      (.region [] [] [0, 1, 5] false [
        (none, .asg 5 (.c (.int .i64 0)) .copy)])
      (.block 0
       (.loop
        (.seq
         (.seq
          (.region [] [] [0, 1, 5, 14] false [
            (none, .mv 11 (.v 5)),
            (none, .mv 12 (.v 0)),
            (none, .len 13 true (.v 12)),
            (none, .bin 14 .lss (.v 11) (.v 13))])
          (.cond (.v 14)
           (.skip [0, 1, 5])
           (.exit 0 [])))
         (.seq
          (.block 1
           (.seq
            (.region [] [] [0, 1, 5, 21] false [
              (none, .mv 17 (.v 0)),
              (none, .mv 18 (.v 5)),
              (none, .call (some 19) 647 false [((.v 17), false), ((.v 18), false)]),
              (none, .mv 20 (.v 1)),
              (none, .bin 21 .eql (.v 19) (.v 20))])
            (.cond (.v 21)
             (.seq
              (.region [] [] [4] false [
                (none, .asg 4 (.c (.bool true)) .copy)])
              (.ret [4]))
             (.skip [0, 1, 5]))))
          (.region [] [] [0, 1, 5] false [
            (none, .mv 15 (.v 5)),
            (none, .bin 16 .add (.v 15) (.c (.int .i64 1))),
            (none, .asg 5 (.v 16) .copy)]))))))
     (.seq
      (.region [] [] [4] false [
        (none, .asg 4 (.c (.bool false)) .copy)])
      (.ret [4])))))⟩
def F560 : PFunc :=
 ⟨[false, false], [.tmp 4, .tmp 5],
  (.seq
   (.region [] [] [0, 1] false [
     (none, .asg 4 (.c (.bool false)) .copy),
     (none, .asg 5 (.c (.int .i64 0)) .copy)])
   (.seq
    (.seq
     (.region [] [] [0, 1, 13] false [
       (none, .mv 6 (.v 0)),
       (none, .call (some 7) 645 false [((.v 6), false)]),
       (none, .un 8 .not (.v 7)),
       (none, .mv 9 (.v 8)),
       (some (9, false), .mv 10 (.v 1)),
       (some (9, false), .call (some 11) 645 false [((.v 10), false)]),
       (some (9, false), .un 12 .not (.v 11)),
       (none, .pick 13 (.v 9) (.c (.bool true)) (.v 12))])
     (.cond (.v 13)
      (.seq
       (.region [] [] [4, 5] false [
         (none, .asg 4 (.c (.bool false)) .copy),
         (none, .asg 5 (.c (.int .i64 1)) .copy)])
       (.ret [4, 5]))
      (.skip [0, 1])))
    (.seq
     (.region [] [] [4, 5] false [
       (none, .mv 14 (.v 0)),
       (none, .mv 15 (.v 1)),
       (none, .call (some 16) 646 false [((.v 14), false), ((.v 15), false)]),
       (none, .asg 4 (.v 16) .copy),
       (none, .asg 5 (.c (.int .i64 0)) .copy)])
     (.ret [4, 5]))))⟩
def F367 : PFunc :=
 ⟨[false, false], [.tmp 4],
  (.seq
   (.region [] [] [0, 1] false [
     (none, .asg 4 (.c (.bool false)) .copy)])
   (.seq
    (.seq
     (.region [(33, 1, false), (32, 0, false)] [] [0, 1, 34] false [
       (none, .mv 32 (.v 0)),
       (none, .mv 33 (.v 1)),
       (none, .call (some 34) 386 false [((.v 32), false), ((.v 33), false)])])
     (.cond (.v 34)
      (.seq
       (.region [] [] [4] false [
         (none, .asg 4 (.c (.bool true)) .copy)])
       (.ret [4]))
      (.skip [0, 1])))
    (.seq
     (.region [(35, 0, false)] [] [1, 5] false [
       (none, .mv 35 (.v 0)),
       (none, .call (some 36) 429 false [((.v 35), false)]),
       (none, .asg 5 (.v 36) .copy)])
     (.seq
      (.region [(37, 1, false)] [] [5, 6] false [
        (none, .mv 37 (.v 1)),
        (none, .mv 38 (.v 5)),
        (none, .len 39 true (.v 38)),
        (none, .call (some 40) 384 false [((.v 37), false), ((.c (.int .i64 0)), false), ((.v 39), false)]),
        (none, .asg 6 (.v 40) .copy)])
      (.seq
       (.region [] [] [5, 7] true [
         (none, .mv 41 (.v 5)),
         (none, .mv 42 (.v 6)),
         (none, .slc 43 true 0 (.v 41) (some (.v 42)) none .copy),
         (none, .mv 44 (.v 5)),
         (none, .mv 45 (.v 6)),
         (none, .slc 46 true 0 (.v 44) none (some (.v 45)) .copy),
         (none, .bin 47 .add (.v 43) (.v 46)),
         (none, .asg 7 (.v 47) .copy)])
       (.seq
        (.region [] [] [5, 7, 8, 9] false [
          (none, .mv 49 (.v 5)),
          (none, .call (some 50) 160 false [((.v 49), false)]),
          (none, .asg 48 (.v 50) .copy),
          (none, .extp 51 (.v 48) 0),
          (none, .extp 52 (.v 48) 1),
          (none, .asg 8 (.v 51) .copy),
          (none, .asg 9 (.v 52) .copy)])
        (.seq
         (.region [] [] [5, 7, 8, 9, 10, 11] false [
           (none, .mv 54 (.v 5)),
           (none, .mv 55 (.v 7)),
           (none, .call (some 56) 171 false [((.v 54), false), ((.v 55), false)]),
           (none, .asg 53 (.v 56) .copy),
           (none, .extp 57 (.v 53) 0),
           (none, .extp 58 (.v 53) 1),
           (none, .asg 10 (.v 57) .copy),
           (none, .asg 11 (.v 58) .copy)])
         (.seq
          (.region [] [] [5, 7, 8, 9, 10, 11, 12, 13] false [
            (none, .mv 60 (.v 5)),
            (none, .call (some 61) 96 false [((.v 60), false)]),
            (none, .asg 59 (.v 61) .copy),
            (none, .extp 62 (.v 59) 0),
            (none, .extp 63 (.v 59) 1),
            (none, .asg 12 (.v 62) .copy),
            (none, .asg 13 (.v 63) .copy)])
          (.seq
           (.region [] [] [5, 8, 9, 10, 11, 12, 13, 14, 15] false [
             (none, .mv 65 (.v 7)),
             (none, .call (some 66) 96 false [((.v 65), false)]),
             (none, .asg 64 (.v 66) .copy),
             (none, .extp 67 (.v 64) 0),
             (none, .extp 68 (.v 64) 1),
             (none, .asg 14 (.v 67) .copy),
             (none, .asg 15 (.v 68) .copy)])
           (.seq
            (.region [] [] [5, 8, 9, 10, 11, 12, 13, 14, 15, 16, 17] false [
              (none, .mv 70 (.v 5)),
              (none, .call (some 71) 45 false [((.v 70), false)]),
              (none, .asg 69 (.v 71) .copy),
              (none, .extp 72 (.v 69) 0),
              (none, .extp 73 (.v 69) 1),
              (none, .asg 16 (.v 72) .copy),
              (none, .asg 17 (.v 73) .copy)])
            (.seq
             (.region [] [] [5, 8, 9, 10, 11, 12, 13, 14, 15, 16, 17, 18, 19] false [
               (none, .mv 75 (.v 16)),
               (none, .call (some 76) 45 false [((.v 75), false)]),
               (none, .asg 74 (.v 76) .copy),
               (none, .extp 77 (.v 74) 0),
               (none, .extp 78 (.v 74) 1),
               (none, .asg 18 (.v 77) .copy),
               (none, .asg 19 (.v 78) .copy)])
             (.seq
              (.region [] [] [5, 8, 9, 10, 11, 12, 13, 14, 15, 16, 17, 18, 19, 20, 21] false [
                (none, .mv 80 (.v 5)),
                (none, .call (some 81) 141 false [((.v 80), false)]),
                (none, .asg 79 (.v 81) .copy),
                (none, .extp 82 (.v 79) 0),
                (none, .extp 83 (.v 79) 1),
                (none, .asg 20 (.v 82) .copy),
                (none, .asg 21 (.v 83) .copy)])
              (.seq
               (.region [] [] [5, 8, 9, 10, 11, 12, 13, 14, 15, 17, 18, 19, 20, 21, 22, 23] false [
                 (none, .mv 85 (.v 5)),
                 (none, .mv 86 (.v 16)),
                 (none, .call (some 87) 171 false [((.v 85), false), ((.v 86), false)]),
                 (none, .asg 84 (.v 87) .copy),
                 (none, .extp 88 (.v 84) 0),
                 (none, .extp 89 (.v 84) 1),
                 (none, .asg 22 (.v 88) .copy),
                 (none, .asg 23 (.v 89) .copy)])
               (.seq
                (.seq
                 (.region [] [] [5, 8, 12, 160] false [
                   (none, .mv 90 (.v 9)),
                   (none, .bin 91 .neq (.v 90) (.c (.int .i64 0))),
                   (none, .mv 92 (.v 91)),
                   (some (92, false), .mv 93 (.v 8)),
                   (some (92, false), .bin 94 .lss (.v 93) (.c (.int .i64 1))),
                   (none, .pick 95 (.v 92) (.c (.bool true)) (.v 94)),
                   (none, .mv 96 (.v 95)),
                   (some (96, false), .mv 97 (.v 8)),
                   (some (96, false), .mv 98 (.v 5)),
                   (some (96, false), .len 99 true (.v 98)),
                   (some (96, false), .bin 100 .gtr (.v 97) (.v 99)),
                   (none, .pick 101 (.v 96) (.c (.bool true)) (.v 100)),
                   (none, .mv 102 (.v 101)),
                   (some (102, false), .mv 103 (.v 5)),
                   (some (102, false), .len 104 true (.v 103)),
                   (some (102, false), .mv 105 (.v 8)),
                   (some (102, false), .bin 106 .rem (.v 104) (.v 105)),
                   (some (102, false), .bin 107 .neq (.v 106) (.c (.int .i64 0))),
                   (none, .pick 108 (.v 102) (.c (.bool true)) (.v 107)),
                   (none, .mv 109 (.v 108)),
                   (some (109, false), .mv 110 (.v 11)),
                   (some (109, false), .bin 111 .neq (.v 110) (.c (.int .i64 0))),
                   (none, .pick 112 (.v 109) (.c (.bool true)) (.v 111)),
                   (none, .mv 113 (.v 112)),
                   (some (113, false), .mv 114 (.v 10)),
                   (some (113, false), .un 115 .not (.v 114)),
                   (none, .pick 116 (.v 113) (.c (.bool true)) (.v 115)),
                   (none, .mv 117 (.v 116)),
                   (some (117, false), .mv 118 (.v 13)),
                   (some (117, false), .bin 119 .neq (.v 118) (.c (.int .i64 0))),
                   (none, .pick 120 (.v 117) (.c (.bool true)) (.v 119)),
                   (none, .mv 121 (.v 120)),
                   (some (121, false), .mv 122 (.v 15)),
                   (some (121, false), .bin 123 .neq (.v 122) (.c (.int .i64 0))),
                   (none, .pick 124 (.v 121) (.c (.bool true)) (.v 123)),
                   (none, .mv 125 (.v 124)),
                   (some (125, false), .mv 126 (.v 12)),
                   (some (125, false), .mv 127 (.v 14)),
                   (some (125, false), .bin 128 .neq (.v 126) (.v 127)),
                   (none, .pick 129 (.v 125) (.c (.bool true)) (.v 128)),
                   (none, .mv 130 (.v 129)),
                   (some (130, false), .mv 131 (.v 12)),
                   (some (130, false), .mv 132 (.v 5)),
                   (some (130, false), .bin 133 .gtr (.v 131) (.v 132)),
                   (none, .pick 134 (.v 130) (.c (.bool true)) (.v 133)),
                   (none, .mv 135 (.v 134)),
                   (some (135, false), .mv 136 (.v 17)),
                   (some (135, false), .bin 137 .neq (.v 136) (.c (.int .i64 0))),
                   (none, .pick 138 (.v 135) (.c (.bool true)) (.v 137)),
                   (none, .mv 139 (.v 138)),
                   (some (139, false), .mv 140 (.v 19)),
                   (some (139, false), .bin 141 .neq (.v 140) (.c (.int .i64 0))),
                   (none, .pick 142 (.v 139) (.c (.bool true)) (.v 141)),
                   (none, .mv 143 (.v 142)),
                   (some (143, false), .mv 144 (.v 18)),
                   (some (143, false), .mv 145 (.v 5)),
                   (some (143, false), .bin 146 .neq (.v 144) (.v 145)),
                   (none, .pick 147 (.v 143) (.c (.bool true)) (.v 146)),
                   (none, .mv 148 (.v 147)),
                   (some (148, false), .mv 149 (.v 21)),
                   (some (148, false), .bin 150 .neq (.v 149) (.c (.int .i64 0))),
                   (none, .pick 151 (.v 148) (.c (.bool true)) (.v 150)),
                   (none, .mv 152 (.v 151)),
                   (some (152, false), .mv 153 (.v 23)),
                   (some (152, false), .bin 154 .neq (.v 153) (.c (.int .i64 0))),
                   (none, .pick 155 (.v 152) (.c (.bool true)) (.v 154)),
                   (none, .mv 156 (.v 155)),
                   (some (156, false), .mv 157 (.v 20)),
                   (some (156, false), .mv 158 (.v 22)),
                   (some (156, false), .eqb 159 true (.v 157) (.v 158)),
                   (none, .pick 160 (.v 156) (.c (.bool true)) (.v 159))])
                 (.cond (.v 160)
                  (.seq
                   (.region [] [] [4] false [
                     (none, .asg 4 (.c (.bool false)) .copy)])
                   (.ret [4]))
                  (.skip [5, 8, 12])))
                (.seq
                 (.region [] [] [5, 8, 24, 25] false [
                   (none, .mv 162 (.v 5)),
                   (none, .mv 163 (.v 12)),
                   (none, .call (some 164) 560 false [((.v 162), false), ((.v 163), false)]),
                   (none, .asg 161 (.v 164) .copy),
                   (none, .extp 165 (.v 161) 0),
                   (none, .extp 166 (.v 161) 1),
                   (none, .asg 24 (.v 165) .copy),
                   (none, .asg 25 (.v 166) .copy)])
                 (.seq
                  (.region [] [] [5, 8, 24, 25, 26, 27] false [
                    (none, .mv 168 (.v 5)),
                    (none, .call (some 169) 62 false [((.v 168), false)]),
                    (none, .asg 167 (.v 169) .copy),
                    (none, .extp 170 (.v 167) 0),
                    (none, .extp 171 (.v 167) 1),
                    (none, .asg 26 (.v 170) .copy),
                    (none, .asg 27 (.v 171) .copy)])
                  (.seq
                   (.seq
                    (.region [] [] [5, 8, 26, 181] false [
                      (none, .mv 172 (.v 25)),
                      (none, .bin 173 .neq (.v 172) (.c (.int .i64 0))),
                      (none, .mv 174 (.v 173)),
                      (some (174, false), .mv 175 (.v 24)),
                      (some (174, false), .un 176 .not (.v 175)),
                      (none, .pick 177 (.v 174) (.c (.bool true)) (.v 176)),
                      (none, .mv 178 (.v 177)),
                      (some (178, false), .mv 179 (.v 27)),
                      (some (178, false), .bin 180 .neq (.v 179) (.c (.int .i64 0))),
                      (none, .pick 181 (.v 178) (.c (.bool true)) (.v 180))])
                    (.cond (.v 181)
                     (.seq
                      (.region [] [] [4] false [
                        (none, .asg 4 (.c (.bool false)) .copy)])
                      (.ret [4]))
                     (.skip [5, 8, 26])))
                   (.seq
                    (.region [] [] [5, 8, 26, 28] false [
                      (none, .asg 28 (.c (.int .i64 0)) .copy)])
                    (.seq
                     (.seq
                      (.region [] [] [5, 8, 26, 28, 29] false [
                        (none, .asg 29 (.c (.int .i64 0)) .copy)])
                      (.block 0
                       (.loop
                        (.seq
                         (.seq
                          (.region [] [] [5, 8, 26, 28, 29, 185] false [
                            (none, .mv 182 (.v 29)),
                            (none, .mv 183 (.v 5)),
                            (none, .len 184 true (.v 183)),
                            (none, .bin 185 .lss (.v 182) (.v 184))])
                          (.cond (.v 185)
                           (.skip [5, 8, 26, 28, 29])
                           (.exit 0 [5, 8, 26, 28])))
                         (.seq
                          (.block 1
                           (.seq
                            (.region [] [] [5, 8, 26, 28, 29, 30] false [
                              (none, .mv 188 (.v 29)),
                              (none, .bin 189 .add (.v 188) (.c (.int .i64 1))),
                              (none, .mv 190 (.v 5)),
                              (none, .len 191 true (.v 190)),
                              (none, .bin 192 .rem (.v 189) (.v 191)),
                              (none, .asg 30 (.v 192) .copy)])
                            (.seq
                             (.seq
                              (.region [] [] [5, 8, 26, 28, 29, 199] true [
                                (none, .mv 193 (.v 5)),
                                (none, .mv 194 (.v 29)),
                                (none, .idx 195 (.v 193) (.v 194)),
                                (none, .mv 196 (.v 5)),
                                (none, .mv 197 (.v 30)),
                                (none, .idx 198 (.v 196) (.v 197)),
                                (none, .bin 199 .neq (.v 195) (.v 198))])
                              (.cond (.v 199)
                               (.region [] [] [5, 8, 26, 28, 29] false [
                                 (none, .mv 200 (.v 28)),
                                 (none, .bin 201 .add (.v 200) (.c (.int .i64 1))),
                                 (none, .asg 28 (.v 201) .copy)])
                               (.skip [5, 8, 26, 28, 29])))
                             (.seq
                              (.region [] [] [5, 8, 26, 28, 29, 213] true [
                                (none, .mv 202 (.v 5)),
                                (none, .mv 203 (.v 29)),
                                (none, .idx 204 (.v 202) (.v 203)),
                                (none, .mv 205 (.v 5)),
                                (none, .mv 206 (.v 29)),
                                (none, .mv 207 (.v 8)),
                                (none, .bin 208 .add (.v 206) (.v 207)),
                                (none, .mv 209 (.v 5)),
                                (none, .len 210 true (.v 209)),
                                (none, .bin 211 .rem (.v 208) (.v 210)),
                                (none, .idx 212 (.v 205) (.v 211)),
                                (none, .bin 213 .neq (.v 204) (.v 212))])
                              (.cond (.v 213)
                               (.seq
                                (.region [] [] [4] false [
                                  (none, .asg 4 (.c (.bool false)) .copy)])
                                (.ret [4]))
                               (.skip [5, 8, 26, 28, 29]))))))
                          (.region [] [] [5, 8, 26, 28, 29] false [
                            (none, .mv 186 (.v 29)),
                            (none, .bin 187 .add (.v 186) (.c (.int .i64 1))),
                            (none, .asg 29 (.v 187) .copy)]))))))
                     (.seq
                      (.seq
                       (.region [] [] [5, 8, 26, 28, 31] false [
                         (none, .asg 31 (.c (.int .i64 1)) .copy)])
                       (.block 2
                        (.loop
                         (.seq
                          (.seq
                           (.region [] [] [5, 8, 26, 28, 31, 216] false [
                             (none, .mv 214 (.v 31)),
                             (none, .mv 215 (.v 8)),
                             (none, .bin 216 .lss (.v 214) (.v 215))])
                           (.cond (.v 216)
                            (.skip [5, 8, 26, 28, 31])
                            (.exit 2 [26, 28])))
                          (.seq
                           (.block 3
                            (.seq
                             (.region [] [] [5, 8, 26, 28, 31, 234] true [
                               (none, .mv 219 (.v 5)),
                               (none, .len 220 true (.v 219)),
                               (none, .mv 221 (.v 31)),
                               (none, .bin 222 .rem (.v 220) (.v 221)),
                               (none, .bin 223 .eql (.v 222) (.c (.int .i64 0))),
                               (none, .mv 224 (.v 223)),
                               (some (224, true), .mv 225 (.v 5)),
                               (some (224, true), .mv 226 (.v 31)),
                               (some (224, true), .slc 227 true 0 (.v 225) (some (.v 226)) none .copy),
                               (some (224, true), .mv 228 (.v 5)),
                               (some (224, true), .mv 229 (.v 31)),
                               (some (224, true), .slc 230 true 0 (.v 228) none (some (.v 229)) .copy),
                               (some (224, true), .bin 231 .add (.v 227) (.v 230)),
                               (some (224, true), .mv 232 (.v 5)),
                               (some (224, true), .bin 233 .eql (.v 231) (.v 232)),
                               (none, .pick 234 (.v 224) (.v 233) (.c (.bool false)))])
                             (.cond (.v 234)
                              (.seq
                               (.region [] [] [4] false [
                                 (none, .asg 4 (.c (.bool false)) .copy)])
                               (.ret [4]))
                              (.skip [5, 8, 26, 28, 31]))))
                           (.region [] [] [5, 8, 26, 28, 31] false [
                             (none, .mv 217 (.v 31)),
                             (none, .bin 218 .add (.v 217) (.c (.int .i64 1))),
                             (none, .asg 31 (.v 218) .copy)]))))))
                      (.seq
                       (.region [] [] [4] false [
                         (none, .mv 235 (.v 28)),
                         (none, .mv 236 (.v 26)),
                         (none, .bin 237 .eql (.v 235) (.v 236)),
                         (none, .asg 4 (.v 237) .copy)])
                       (.ret [4]))))))))))))))))))))))⟩
def tabl : List (Nat × PFunc) := [(277, F277), (222, F222), (833, F833), (300, F300), (45, F45), (62, F62), (320, F320), (96, F96), (302, F302), (141, F141), (160, F160), (171, F171), (384, F384), (386, F386), (603, F603), (5, F5), (7, F7), (602, F602), (610, F610), (621, F621), (623, F623), (644, F644), (642, F642), (429, F429), (605, F605), (645, F645), (647, F647), (646, F646), (560, F560), (367, F367)]
def T : Nat → Option PFunc := tabOf tabl
end Go.Vs.G
