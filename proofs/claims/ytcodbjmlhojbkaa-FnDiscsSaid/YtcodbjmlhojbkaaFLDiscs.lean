/- The functions that the law reaches, in the small language, printed by program. No conditions. -/
import Derived.Test.YtcodbjmlhojbkaaDLDiscs
import Derived.Test.YtcodbjmlhojbkaaV4
set_option maxRecDepth 100000
open Go Go.Vs
namespace Go.Vs.G
def F277 : PFunc :=
 ⟨[false, false], [.tmp 4],
  (.seq
   (.region [] [] [0, 1] false [
     (none, .asg 4 (.c (.bool false)) .copy)])
   (.seq
    (.seq
     (.region [] [] [0, 1, 5] false [
       (none, .asg 5 (.c (.int .i64 0)) .copy)])
     (.block 0
      (.loop
       (.seq
        (.seq
         (.region [] [] [0, 1, 5, 9] false [
           (none, .mv 6 (.v 5)),
           (none, .mv 7 (.v 0)),
           (none, .len 8 true (.v 7)),
           (none, .bin 9 .lss (.v 6) (.v 8))])
         (.cond (.v 9)
          (.skip [0, 1, 5])
          (.exit 0 [0, 1])))
        (.seq
         (.block 1
          (.seq
           (.region [] [] [0, 1, 5, 21] false [
             (none, .mv 12 (.v 0)),
             (none, .mv 13 (.v 5)),
             (none, .idx 14 (.v 12) (.v 13)),
             (none, .bin 15 .lss (.v 14) (.c (.int .u8 97))),
             (none, .mv 16 (.v 15)),
             (some (16, false), .mv 17 (.v 0)),
             (some (16, false), .mv 18 (.v 5)),
             (some (16, false), .idx 19 (.v 17) (.v 18)),
             (some (16, false), .bin 20 .gtr (.v 19) (.c (.int .u8 122))),
             (none, .pick 21 (.v 16) (.c (.bool true)) (.v 20))])
           (.cond (.v 21)
            (.seq
             (.region [] [] [4] false [
               (none, .asg 4 (.c (.bool false)) .copy)])
             (.ret [4]))
            (.skip [0, 1, 5]))))
         (.region [] [] [0, 1, 5] false [
           (none, .mv 10 (.v 5)),
           (none, .bin 11 .add (.v 10) (.c (.int .i64 1))),
           (none, .asg 5 (.v 11) .copy)]))))))
    (.seq
     (.region [] [] [4] false [
       (none, .mv 22 (.v 0)),
       (none, .len 23 true (.v 22)),
       (none, .bin 24 .geq (.v 23) (.c (.int .i64 1))),
       (none, .mv 25 (.v 24)),
       (some (25, true), .mv 26 (.v 0)),
       (some (25, true), .len 27 true (.v 26)),
       (some (25, true), .mv 28 (.v 1)),
       (some (25, true), .bin 29 .leq (.v 27) (.v 28)),
       (none, .pick 30 (.v 25) (.v 29) (.c (.bool false))),
       (none, .asg 4 (.v 30) .copy)])
     (.ret [4]))))⟩
def F222 : PFunc :=
 ⟨[false], [.tmp 2],
  (.seq
   (.region [] [] [0] false [
     (none, .asg 2 (.c (.bool false)) .copy)])
   (.seq
    (.region [] [] [2] false [
      (none, .mv 3 (.v 0)),
      (none, .call (some 4) 277 false [((.v 3), false), ((.c (.int .i64 24)), false)]),
      (none, .asg 2 (.v 4) .copy)])
    (.ret [2])))⟩
def F294 : PFunc :=
 ⟨[false, false, false], [.tmp 6],
  (.seq
   (.region [] [] [0, 1, 2] false [
     (none, .asg 6 (.c (.int .i64 0)) .copy)])
   (.seq
    (.region [] [] [6] false [
      (none, .mv 7 (.v 2)),
      (none, .bin 8 .mul (.c (.int .i64 2)) (.v 7)),
      (none, .mv 9 (.v 0)),
      (none, .bin 10 .mul (.v 8) (.v 9)),
      (none, .mv 11 (.v 1)),
      (none, .bin 12 .add (.v 10) (.v 11)),
      (none, .mv 13 (.v 1)),
      (none, .bin 14 .mul (.c (.int .i64 2)) (.v 13)),
      (none, .bin 15 .quo (.v 12) (.v 14)),
      (none, .asg 6 (.v 15) .copy)])
    (.ret [6])))⟩
def F304 : PFunc :=
 ⟨[false, false], [.tmp 4],
  (.seq
   (.region [] [] [0, 1] false [
     (none, .asg 4 (.c (.sl true 1 [])) .copy)])
   (.seq
    (.region [] [] [0, 1, 5] false [
      (none, .mksl 7 1 (.int .i64 0) 0 []),
      (none, .asg 5 (.v 7) .move)])
    (.seq
     (.seq
      (.region [] [] [0, 1, 5, 8, 9] false [
        (none, .mv 8 (.v 1)),
        (none, .mv 9 (.c (.int .i64 0)))])
      (.block 0
       (.loop
        (.seq
         (.region [] [] [0, 1, 5, 8, 9, 10] false [
           (none, .bin 10 .lss (.v 9) (.v 8))])
         (.seq
          (.cond (.v 10)
           (.skip [0, 1, 5, 8, 9])
           (.exit 0 [5]))
          (.seq
           (.block 1
            (.seq
             (.region [] [] [0, 1, 5, 6, 8, 9] false [
               (none, .mv 11 (.v 9)),
               (none, .asg 6 (.v 11) .copy)])
             (.region [(12, 5, false)] [] [0, 1, 5, 8, 9] false [
               (none, .mv 12 (.v 5)),
               (none, .mv 13 (.v 0)),
               (none, .mv 14 (.v 1)),
               (none, .mv 15 (.v 6)),
               (none, .call (some 16) 294 false [((.v 13), false), ((.v 14), false), ((.v 15), false)]),
               (none, .mv 17 (.v 0)),
               (none, .bin 18 .rem (.v 16) (.v 17)),
               (none, .mksl 19 1 (.int .i64 0) 1 [(0, (.v 18), .copy)]),
               (none, .app 20 1 (.v 12) (.v 19) .move),
               (none, .asg 5 (.v 20) .move)])))
           (.region [] [] [0, 1, 5, 8, 9] false [
             (none, .bin 21 .add (.v 9) (.c (.int .i64 1))),
             (none, .mv 9 (.v 21))])))))))
     (.seq
      (.region [(22, 5, false)] [] [4] false [
        (none, .mv 22 (.v 5)),
        (none, .asg 4 (.v 22) .move)])
      (.ret [4])))))⟩
def F261 : PFunc :=
 ⟨[false, false], [.tmp 4, .tmp 5],
  (.seq
   (.region [] [] [0, 1] false [
     (none, .asg 4 (.c (.str [])) .copy),
     (none, .asg 5 (.c (.bool false)) .copy)])
   (.seq
    (.region [] [] [0, 1, 6] false [
      (none, .mv 10 (.v 1)),
      (none, .make 11 1 (.int .u8 0) (.v 10)),
      (none, .asg 6 (.v 11) .move)])
    (.seq
     (.seq
      (.region [] [] [0, 6, 15, 16, 17] false [
        (none, .mv 12 (.v 1)),
        (none, .mv 13 (.v 0)),
        (none, .len 14 true (.v 13)),
        (none, .call (some 15) 304 false [((.v 12), false), ((.v 14), false)]),
        (none, .len 16 false (.v 15)),
        (none, .mv 17 (.c (.int .i64 0)))])
      (.block 0
       (.loop
        (.seq
         (.region [] [] [0, 6, 15, 16, 17, 18] false [
           (none, .bin 18 .lss (.v 17) (.v 16))])
         (.seq
          (.cond (.v 18)
           (.skip [0, 6, 15, 16, 17])
           (.exit 0 [6]))
          (.seq
           (.block 1
            (.seq
             (.region [(20, 15, false)] [] [0, 6, 7, 8, 15, 16, 17] false [
               (none, .mv 19 (.v 17)),
               (none, .iadr 20 1 (.v 15) (.v 17)),
               (none, .load 21 false 1 (.v 20) none),
               (none, .asg 7 (.v 19) .copy),
               (none, .asg 8 (.v 21) .copy)])
             (.seq
              (.seq
               (.region [(30, 6, false), (28, 6, false), (24, 6, false), (22, 6, false)] [] [0, 6, 7, 8, 15, 16, 17, 36] true [
                 (none, .mv 22 (.v 6)),
                 (none, .mv 23 (.v 8)),
                 (none, .iadr 24 1 (.v 22) (.v 23)),
                 (none, .load 25 false 1 (.v 24) none),
                 (none, .bin 26 .neq (.v 25) (.c (.int .u8 0))),
                 (none, .mv 27 (.v 26)),
                 (some (27, true), .mv 28 (.v 6)),
                 (some (27, true), .mv 29 (.v 8)),
                 (some (27, true), .iadr 30 1 (.v 28) (.v 29)),
                 (some (27, true), .load 31 false 1 (.v 30) none),
                 (some (27, true), .mv 32 (.v 0)),
                 (some (27, true), .mv 33 (.v 7)),
                 (some (27, true), .idx 34 (.v 32) (.v 33)),
                 (some (27, true), .bin 35 .neq (.v 31) (.v 34)),
                 (none, .pick 36 (.v 27) (.v 35) (.c (.bool false)))])
               (.cond (.v 36)
                (.seq
                 (.region [] [] [4, 5] false [
                   (none, .asg 4 (.c (.str [])) .copy),
                   (none, .asg 5 (.c (.bool false)) .copy)])
                 (.ret [4, 5]))
                (.skip [0, 6, 7, 8, 15, 16, 17])))
              (.region [(42, 6, false), (37, 6, false)] [] [0, 6, 15, 16, 17] false [
                (none, .mv 37 (.v 6)),
                (none, .mv 38 (.v 8)),
                (none, .mv 39 (.v 0)),
                (none, .mv 40 (.v 7)),
                (none, .idx 41 (.v 39) (.v 40)),
                (none, .iadr 42 1 (.v 37) (.v 38)),
                (none, .store 1 (.v 42) (.v 41) .copy)]))))
           (.region [] [] [0, 6, 15, 16, 17] false [
             (none, .bin 43 .add (.v 17) (.c (.int .i64 1))),
             (none, .mv 17 (.v 43))])))))))
     (.seq
      (.seq
       (.region [] [] [6, 9] false [
         (none, .asg 9 (.c (.int .i64 1)) .copy)])
       (.block 2
        (.loop
         (.seq
          (.seq
           (.region [(45, 6, false)] [] [6, 9, 47] false [
             (none, .mv 44 (.v 9)),
             (none, .mv 45 (.v 6)),
             (none, .len 46 false (.v 45)),
             (none, .bin 47 .lss (.v 44) (.v 46))])
           (.cond (.v 47)
            (.skip [6, 9])
            (.exit 2 [6])))
          (.seq
           (.block 3
            (.seq
             (.region [(52, 6, false), (50, 6, false)] [] [6, 9, 54] false [
               (none, .mv 50 (.v 6)),
               (none, .mv 51 (.v 9)),
               (none, .iadr 52 1 (.v 50) (.v 51)),
               (none, .load 53 false 1 (.v 52) none),
               (none, .bin 54 .eql (.v 53) (.c (.int .u8 0)))])
             (.cond (.v 54)
              (.region [(62, 6, false), (60, 6, false), (57, 6, false), (55, 6, false)] [] [6, 9] false [
                (none, .mv 55 (.v 6)),
                (none, .mv 56 (.v 9)),
                (none, .mv 57 (.v 6)),
                (none, .mv 58 (.v 9)),
                (none, .bin 59 .sub (.v 58) (.c (.int .i64 1))),
                (none, .iadr 60 1 (.v 57) (.v 59)),
                (none, .load 61 false 1 (.v 60) none),
                (none, .iadr 62 1 (.v 55) (.v 56)),
                (none, .store 1 (.v 62) (.v 61) .copy)])
              (.skip [6, 9]))))
           (.region [] [] [6, 9] false [
             (none, .mv 48 (.v 9)),
             (none, .bin 49 .add (.v 48) (.c (.int .i64 1))),
             (none, .asg 9 (.v 49) .copy)]))))))
      (.seq
       (.region [(63, 6, false)] [] [4, 5] false [
         (none, .mv 63 (.v 6)),
         (none, .b2s 64 (.v 63)),
         (none, .asg 4 (.v 64) .copy),
         (none, .asg 5 (.c (.bool true)) .copy)])
       (.ret [4, 5]))))))⟩
def F326 : PFunc :=
 ⟨[false, false, false], [.tmp 6],
  (.seq
   (.region [] [] [0, 1, 2] false [
     (none, .asg 6 (.c (.bool false)) .copy)])
   (.seq
    (.region [] [] [6] false [
      (none, .mv 7 (.v 0)),
      (none, .mv 8 (.v 1)),
      (none, .bin 9 .geq (.v 7) (.v 8)),
      (none, .mv 10 (.v 9)),
      (some (10, true), .mv 11 (.v 0)),
      (some (10, true), .mv 12 (.v 2)),
      (some (10, true), .bin 13 .leq (.v 11) (.v 12)),
      (none, .pick 14 (.v 10) (.v 13) (.c (.bool false))),
      (none, .asg 6 (.v 14) .copy)])
    (.ret [6])))⟩
def F73 : PFunc :=
 ⟨[false, false], [.tmp 4, .tmp 5],
  (.seq
   (.region [] [] [0, 1] false [
     (none, .asg 4 (.c (.str [])) .copy),
     (none, .asg 5 (.c (.int .i64 0)) .copy)])
   (.seq
    (.block 0
     (.seq
      (.region [] [] [0, 1, 8] false [
        (none, .mv 9 (.v 0)),
        (none, .call (some 10) 222 false [((.v 9), false)]),
        (none, .un 11 .not (.v 10)),
        (none, .asg 8 (.v 11) .copy)])
      (.cond (.v 8)
       (.seq
        (.region [] [] [4, 5] false [
          (none, .asg 4 (.c (.str [])) .copy),
          (none, .asg 5 (.c (.int .i64 1)) .copy)])
        (.ret [4, 5]))
       (.seq
        (.region [] [] [0, 1, 12] false [
          (none, .mv 13 (.v 1)),
          (none, .call (some 14) 326 false [((.v 13), false), ((.c (.int .i64 1)), false), ((.c (.int .i64 24)), false)]),
          (none, .un 15 .not (.v 14)),
          (none, .asg 12 (.v 15) .copy)])
        (.cond (.v 12)
         (.seq
          (.region [] [] [4, 5] false [
            (none, .asg 4 (.c (.str [])) .copy),
            (none, .asg 5 (.c (.int .i64 2)) .copy)])
          (.ret [4, 5]))
         (.skip [0, 1]))))))
    (.seq
     (.region [] [] [6, 7] false [
       (none, .mv 17 (.v 0)),
       (none, .mv 18 (.v 1)),
       (none, .call (some 19) 261 false [((.v 17), false), ((.v 18), false)]),
       (none, .asg 16 (.v 19) .copy),
       (none, .extp 20 (.v 16) 0),
       (none, .extp 21 (.v 16) 1),
       (none, .asg 6 (.v 20) .copy),
       (none, .asg 7 (.v 21) .copy)])
     (.seq
      (.seq
       (.region [] [] [6, 23] false [
         (none, .mv 22 (.v 7)),
         (none, .un 23 .not (.v 22))])
       (.cond (.v 23)
        (.seq
         (.region [] [] [4, 5] false [
           (none, .asg 4 (.c (.str [])) .copy),
           (none, .asg 5 (.c (.int .i64 9)) .copy)])
         (.ret [4, 5]))
        (.skip [6])))
      (.seq
       (.region [] [] [4, 5] false [
         (none, .mv 24 (.v 6)),
         (none, .asg 4 (.v 24) .copy),
         (none, .asg 5 (.c (.int .i64 0)) .copy)])
       (.ret [4, 5]))))))⟩
def F91 : PFunc :=
 ⟨[false], [.tmp 2, .tmp 3],
  (.seq
   (.region [] [] [0] false [
     (none, .asg 2 (.c (.int .i64 0)) .copy),
     (none, .asg 3 (.c (.int .i64 0)) .copy)])
   (.seq
    (.seq
     (.region [] [] [0, 9] false [
       (none, .mv 7 (.v 0)),
       (none, .call (some 8) 222 false [((.v 7), false)]),
       (none, .un 9 .not (.v 8))])
     (.cond (.v 9)
      (.seq
       (.region [] [] [2, 3] false [
         (none, .asg 2 (.c (.int .i64 0)) .copy),
         (none, .asg 3 (.c (.int .i64 1)) .copy)])
       (.ret [2, 3]))
      (.skip [0])))
    (.seq
     (.region [] [] [0, 4] false [
       (none, .asg 4 (.c (.int .i64 1)) .copy)])
     (.seq
      (.block 0
       (.loop
        (.seq
         (.seq
          (.region [] [] [0, 4, 13] false [
            (none, .mv 10 (.v 4)),
            (none, .mv 11 (.v 0)),
            (none, .len 12 true (.v 11)),
            (none, .bin 13 .lss (.v 10) (.v 12))])
          (.cond (.v 13)
           (.skip [0, 4])
           (.exit 0 [4])))
         (.seq
          (.block 1
           (.seq
            (.region [] [] [0, 4, 6] false [
              (none, .mv 17 (.v 0)),
              (none, .mv 18 (.v 4)),
              (none, .call (some 19) 261 false [((.v 17), false), ((.v 18), false)]),
              (none, .asg 16 (.v 19) .copy),
              (none, .extp 20 (.v 16) 0),
              (none, .extp 21 (.v 16) 1),
              (none, .asg 5 (.v 20) .copy),
              (none, .asg 6 (.v 21) .copy)])
            (.seq
             (.region [] [] [0, 4, 22] false [
               (none, .mv 22 (.v 6))])
             (.cond (.v 22)
              (.exit 0 [4])
              (.skip [0, 4])))))
          (.region [] [] [0, 4] false [
            (none, .mv 14 (.v 4)),
            (none, .bin 15 .add (.v 14) (.c (.int .i64 1))),
            (none, .asg 4 (.v 15) .copy)])))))
      (.seq
       (.region [] [] [2, 3] false [
         (none, .mv 23 (.v 4)),
         (none, .asg 2 (.v 23) .copy),
         (none, .asg 3 (.c (.int .i64 0)) .copy)])
       (.ret [2, 3]))))))⟩
def F147 : PFunc :=
 ⟨[false, false], [.tmp 4, .tmp 5],
  (.seq
   (.region [] [] [0, 1] false [
     (none, .asg 4 (.c (.str [])) .copy),
     (none, .asg 5 (.c (.int .i64 0)) .copy)])
   (.seq
    (.block 0
     (.seq
      (.region [] [] [0, 1, 9] false [
        (none, .mv 10 (.v 0)),
        (none, .call (some 11) 222 false [((.v 10), false)]),
        (none, .un 12 .not (.v 11)),
        (none, .asg 9 (.v 12) .copy)])
      (.cond (.v 9)
       (.seq
        (.region [] [] [4, 5] false [
          (none, .asg 4 (.c (.str [])) .copy),
          (none, .asg 5 (.c (.int .i64 1)) .copy)])
        (.ret [4, 5]))
       (.seq
        (.region [] [] [0, 1, 13] false [
          (none, .mv 14 (.v 1)),
          (none, .call (some 15) 326 false [((.v 14), false), ((.c (.int .i64 1)), false), ((.c (.int .i64 24)), false)]),
          (none, .un 16 .not (.v 15)),
          (none, .asg 13 (.v 16) .copy)])
        (.cond (.v 13)
         (.seq
          (.region [] [] [4, 5] false [
            (none, .asg 4 (.c (.str [])) .copy),
            (none, .asg 5 (.c (.int .i64 2)) .copy)])
          (.ret [4, 5]))
         (.skip [0, 1]))))))
    (.seq
     (.region [] [] [0, 1, 6] false [
       (none, .mksl 17 1 (.int .u8 0) 0 []),
       (none, .asg 6 (.v 17) .move)])
     (.seq
      (.seq
       (.region [] [] [0, 6, 21, 22, 23] false [
         (none, .mv 18 (.v 0)),
         (none, .len 19 true (.v 18)),
         (none, .mv 20 (.v 1)),
         (none, .call (some 21) 304 false [((.v 19), false), ((.v 20), false)]),
         (none, .len 22 false (.v 21)),
         (none, .mv 23 (.c (.int .i64 0)))])
       (.block 1
        (.loop
         (.seq
          (.region [] [] [0, 6, 21, 22, 23, 24] false [
            (none, .bin 24 .lss (.v 23) (.v 22))])
          (.seq
           (.cond (.v 24)
            (.skip [0, 6, 21, 22, 23])
            (.exit 1 [6]))
           (.seq
            (.block 2
             (.seq
              (.region [(25, 21, false)] [] [0, 6, 8, 21, 22, 23] false [
                (none, .iadr 25 1 (.v 21) (.v 23)),
                (none, .load 26 false 1 (.v 25) none),
                (none, .asg 8 (.v 26) .copy)])
              (.region [(27, 6, false)] [] [0, 6, 21, 22, 23] false [
                (none, .mv 27 (.v 6)),
                (none, .mv 28 (.v 0)),
                (none, .mv 29 (.v 8)),
                (none, .idx 30 (.v 28) (.v 29)),
                (none, .mksl 31 1 (.int .u8 0) 1 [(0, (.v 30), .copy)]),
                (none, .app 32 1 (.v 27) (.v 31) .move),
                (none, .asg 6 (.v 32) .move)])))
            (.region [] [] [0, 6, 21, 22, 23] false [
              (none, .bin 33 .add (.v 23) (.c (.int .i64 1))),
              (none, .mv 23 (.v 33))])))))))
      (.seq
       (.region [(34, 6, false)] [] [4, 5] false [
         (none, .mv 34 (.v 6)),
         (none, .b2s 35 (.v 34)),
         (none, .asg 4 (.v 35) .copy),
         (none, .asg 5 (.c (.int .i64 0)) .copy)])
       (.ret [4, 5]))))))⟩
def F384 : PFunc :=
 ⟨[false, false, false], [.tmp 6],
  (.seq
   (.region [] [] [0, 1, 2] false [
     (none, .asg 6 (.c (.int .i64 0)) .copy)])
   (.seq
    (.seq
     (.region [(8, 0, false)] [] [0, 1, 2, 14] false [
       (none, .mv 7 (.v 1)),
       (none, .mv 8 (.v 0)),
       (none, .len 9 false (.v 8)),
       (none, .bin 10 .geq (.v 7) (.v 9)),
       (none, .mv 11 (.v 10)),
       (some (11, false), .mv 12 (.v 2)),
       (some (11, false), .bin 13 .lss (.v 12) (.c (.int .i64 1))),
       (none, .pick 14 (.v 11) (.c (.bool true)) (.v 13))])
     (.cond (.v 14)
      (.seq
       (.region [] [] [6] false [
         (none, .asg 6 (.c (.int .i64 0)) .copy)])
       (.ret [6]))
      (.skip [0, 1, 2])))
    (.seq
     (.region [(17, 0, false), (15, 0, false)] [] [6] false [
       (none, .mv 15 (.v 0)),
       (none, .mv 16 (.v 1)),
       (none, .iadr 17 1 (.v 15) (.v 16)),
       (none, .load 18 false 1 (.v 17) none),
       (none, .conv 19 .i64 (.v 18)),
       (none, .mv 20 (.v 2)),
       (none, .bin 21 .rem (.v 19) (.v 20)),
       (none, .asg 6 (.v 21) .copy)])
     (.ret [6]))))⟩
def F386 : PFunc :=
 ⟨[false, false], [.tmp 4],
  (.seq
   (.region [] [] [0, 1] false [
     (none, .asg 4 (.c (.bool false)) .copy)])
   (.seq
    (.region [(9, 1, false), (5, 0, false)] [] [4] false [
      (none, .mv 5 (.v 0)),
      (none, .len 6 false (.v 5)),
      (none, .bin 7 .gtr (.v 6) (.c (.int .i64 3000))),
      (none, .mv 8 (.v 7)),
      (some (8, false), .mv 9 (.v 1)),
      (some (8, false), .len 10 false (.v 9)),
      (some (8, false), .bin 11 .gtr (.v 10) (.c (.int .i64 3000))),
      (none, .pick 12 (.v 8) (.c (.bool true)) (.v 11)),
      (none, .asg 4 (.v 12) .copy)])
    (.ret [4])))⟩
def F603 : PFunc :=
 ⟨[false], [.tmp 2],
  (.seq
   (.region [] [] [0] false [
     (none, .asg 2 (.c .nilp) .copy)])
   (.seq
    (.region [(3, 0, false)] [] [2] false [
      (none, .mv 3 (.v 0)),
      (none, .build 4 [(.sl false 1 []), (.int .i64 0), (.int .u64 0)] [(0, 1, (.v 3), .move)]),
      (none, .box 5 (.v 4) .move),
      (none, .asg 2 (.v 5) .move)])
    (.ret [2])))⟩
def F5 : PFunc :=
 ⟨[true], [.tmp 2],
  (.seq
   (.region [] [] [0] false [
     (none, .asg 2 (.c (.int .i64 0)) .copy)])
   (.seq
    (.region [] [] [0, 3] false [
      (none, .asg 3 (.c (.int .i64 0)) .copy)])
    (.seq
     (.seq
      (.region [(11, 0, true), (10, 0, false), (9, 0, false), (8, 0, false), (6, 0, false), (5, 0, false), (4, 0, false)] [] [0, 3, 13] true [
        (none, .mv 4 (.v 0)),
        (none, .nchk 5 (.v 4)),
        (none, .fadr 6 1 1 (.v 5)),
        (none, .load 7 false 1 (.v 6) none),
        (none, .mv 8 (.v 0)),
        (none, .nchk 9 (.v 8)),
        (none, .fadr 10 0 1 (.v 9)),
        (none, .load 11 false 1 (.v 10) none),
        (none, .len 12 false (.v 11)),
        (none, .bin 13 .lss (.v 7) (.v 12))])
      (.cond (.v 13)
       (.region [(22, 0, true), (20, 0, false), (19, 0, false), (18, 0, false), (17, 0, true), (16, 0, false), (15, 0, false), (14, 0, false)] [] [0, 3] true [
         (none, .mv 14 (.v 0)),
         (none, .nchk 15 (.v 14)),
         (none, .fadr 16 0 1 (.v 15)),
         (none, .load 17 false 1 (.v 16) none),
         (none, .mv 18 (.v 0)),
         (none, .nchk 19 (.v 18)),
         (none, .fadr 20 1 1 (.v 19)),
         (none, .load 21 false 1 (.v 20) none),
         (none, .iadr 22 1 (.v 17) (.v 21)),
         (none, .load 23 false 1 (.v 22) none),
         (none, .conv 24 .i64 (.v 23)),
         (none, .asg 3 (.v 24) .copy)])
       (.skip [0, 3])))
     (.seq
      (.region [(31, 0, false), (30, 0, false), (27, 0, false), (26, 0, false), (25, 0, false)] [] [0, 3] false [
        (none, .mv 25 (.v 0)),
        (none, .nchk 26 (.v 25)),
        (none, .fadr 27 1 1 (.v 26)),
        (none, .load 28 false 1 (.v 27) none),
        (none, .bin 29 .add (.v 28) (.c (.int .i64 1))),
        (none, .nchk 30 (.v 25)),
        (none, .fadr 31 1 1 (.v 30)),
        (none, .store 1 (.v 31) (.v 29) .copy)])
      (.seq
       (.region [(43, 0, false), (42, 0, false), (35, 0, false), (34, 0, false), (33, 0, false), (32, 0, false)] [] [0, 3] false [
         (none, .mv 32 (.v 0)),
         (none, .mv 33 (.v 0)),
         (none, .nchk 34 (.v 33)),
         (none, .fadr 35 2 1 (.v 34)),
         (none, .load 36 false 1 (.v 35) none),
         (none, .bin 37 .mul (.v 36) (.c (.int .u64 6364136223846793005))),
         (none, .mv 38 (.v 3)),
         (none, .conv 39 .u64 (.v 38)),
         (none, .bin 40 .add (.v 37) (.v 39)),
         (none, .bin 41 .add (.v 40) (.c (.int .u64 1442695040888963407))),
         (none, .nchk 42 (.v 32)),
         (none, .fadr 43 2 1 (.v 42)),
         (none, .store 1 (.v 43) (.v 41) .copy)])
       (.seq
        (.seq
         (.region [(51, 0, true), (50, 0, false), (49, 0, false), (48, 0, false), (46, 0, false), (45, 0, false), (44, 0, false)] [] [0, 3, 53] true [
           (none, .mv 44 (.v 0)),
           (none, .nchk 45 (.v 44)),
           (none, .fadr 46 1 1 (.v 45)),
           (none, .load 47 false 1 (.v 46) none),
           (none, .mv 48 (.v 0)),
           (none, .nchk 49 (.v 48)),
           (none, .fadr 50 0 1 (.v 49)),
           (none, .load 51 false 1 (.v 50) none),
           (none, .len 52 false (.v 51)),
           (none, .bin 53 .leq (.v 47) (.v 52))])
         (.cond (.v 53)
          (.seq
           (.region [] [] [0, 2] false [
             (none, .mv 54 (.v 3)),
             (none, .asg 2 (.v 54) .copy)])
           (.ret [0, 2]))
          (.skip [0])))
        (.seq
         (.region [(57, 0, false), (56, 0, false), (55, 0, false)] [] [0, 2] false [
           (none, .mv 55 (.v 0)),
           (none, .nchk 56 (.v 55)),
           (none, .fadr 57 2 1 (.v 56)),
           (none, .load 58 false 1 (.v 57) none),
           (none, .bin 59 .shr (.v 58) (.c (.int .u64 40))),
           (none, .bin 60 .and (.v 59) (.c (.int .u64 255))),
           (none, .conv 61 .i64 (.v 60)),
           (none, .asg 2 (.v 61) .copy)])
         (.ret [0, 2]))))))))⟩
def F7 : PFunc :=
 ⟨[true, false], [.tmp 4],
  (.seq
   (.region [] [] [0, 1] false [
     (none, .asg 4 (.c (.int .i64 0)) .copy)])
   (.seq
    (.seq
     (.region [] [] [0, 1, 7] false [
       (none, .mv 6 (.v 1)),
       (none, .bin 7 .leq (.v 6) (.c (.int .i64 1)))])
     (.cond (.v 7)
      (.seq
       (.region [] [] [0, 4] false [
         (none, .asg 4 (.c (.int .i64 0)) .copy)])
       (.ret [0, 4]))
      (.skip [0, 1])))
    (.seq
     (.region [(8, 0, false)] [] [0, 1, 5] false [
       (none, .mv 8 (.v 0)),
       (none, .call (some 9) 5 true [((.v 8), true)]),
       (none, .asg 5 (.v 9) .copy)])
     (.seq
      (.seq
       (.region [] [] [0, 1, 5, 11] false [
         (none, .mv 10 (.v 1)),
         (none, .bin 11 .gtr (.v 10) (.c (.int .i64 200)))])
       (.cond (.v 11)
        (.region [(14, 0, false)] [] [0, 1, 5] false [
          (none, .mv 12 (.v 5)),
          (none, .bin 13 .mul (.v 12) (.c (.int .i64 256))),
          (none, .mv 14 (.v 0)),
          (none, .call (some 15) 5 true [((.v 14), true)]),
          (none, .bin 16 .add (.v 13) (.v 15)),
          (none, .asg 5 (.v 16) .copy)])
        (.skip [0, 1, 5])))
      (.seq
       (.region [] [] [0, 4] false [
         (none, .mv 17 (.v 5)),
         (none, .mv 18 (.v 1)),
         (none, .bin 19 .rem (.v 17) (.v 18)),
         (none, .asg 4 (.v 19) .copy)])
       (.ret [0, 4]))))))⟩
def F602 : PFunc :=
 ⟨[false, false], [.tmp 4],
  (.seq
   (.region [] [] [0, 1] false [
     (none, .asg 4 (.c (.int .i64 0)) .copy)])
   (.seq
    (.region [] [] [0, 1, 5] false [
      (none, .mv 6 (.v 0)),
      (none, .mv 7 (.v 1)),
      (none, .bin 8 .quo (.v 6) (.v 7)),
      (none, .asg 5 (.v 8) .copy)])
    (.seq
     (.seq
      (.region [] [] [5, 12] false [
        (none, .mv 9 (.v 0)),
        (none, .mv 10 (.v 1)),
        (none, .bin 11 .rem (.v 9) (.v 10)),
        (none, .bin 12 .lss (.v 11) (.c (.int .i64 0)))])
      (.cond (.v 12)
       (.region [] [] [5] false [
         (none, .mv 13 (.v 5)),
         (none, .bin 14 .sub (.v 13) (.c (.int .i64 1))),
         (none, .asg 5 (.v 14) .copy)])
       (.skip [5])))
     (.seq
      (.region [] [] [4] false [
        (none, .mv 15 (.v 5)),
        (none, .asg 4 (.v 15) .copy)])
      (.ret [4])))))⟩
def F610 : PFunc :=
 ⟨[false, false], [.tmp 4],
  (.seq
   (.region [] [] [0, 1] false [
     (none, .asg 4 (.c (.int .i64 0)) .copy)])
   (.seq
    (.region [] [] [4] false [
      (none, .mv 5 (.v 0)),
      (none, .bin 6 .mul (.c (.int .i64 2)) (.v 5)),
      (none, .mv 7 (.v 1)),
      (none, .bin 8 .add (.v 6) (.v 7)),
      (none, .mv 9 (.v 1)),
      (none, .bin 10 .mul (.c (.int .i64 2)) (.v 9)),
      (none, .call (some 11) 602 false [((.v 8), false), ((.v 10), false)]),
      (none, .asg 4 (.v 11) .copy)])
    (.ret [4])))⟩
def F621 : PFunc :=
 ⟨[false, false, false], [.tmp 6],
  (.seq
   (.region [] [] [0, 1, 2] false [
     (none, .asg 6 (.c (.int .i64 0)) .copy)])
   (.seq
    (.region [] [] [6] false [
      (none, .mv 7 (.v 2)),
      (none, .mv 8 (.v 0)),
      (none, .bin 9 .mul (.v 7) (.v 8)),
      (none, .mv 10 (.v 1)),
      (none, .call (some 11) 610 false [((.v 9), false), ((.v 10), false)]),
      (none, .asg 6 (.v 11) .copy)])
    (.ret [6])))⟩
def F623 : PFunc :=
 ⟨[false, false, false], [.tmp 6],
  (.seq
   (.region [] [] [0, 1, 2] false [
     (none, .asg 6 (.c (.int .i64 0)) .copy)])
   (.seq
    (.region [] [] [6] false [
      (none, .mv 7 (.v 0)),
      (none, .mv 8 (.v 1)),
      (none, .mv 9 (.v 2)),
      (none, .call (some 10) 621 false [((.v 7), false), ((.v 8), false), ((.v 9), false)]),
      (none, .mv 11 (.v 0)),
      (none, .bin 12 .rem (.v 10) (.v 11)),
      (none, .asg 6 (.v 12) .copy)])
    (.ret [6])))⟩
def F644 : PFunc :=
 ⟨[false, false], [.tmp 4],
  (.seq
   (.region [] [] [0, 1] false [
     (none, .asg 4 (.c (.str [])) .copy)])
   (.seq
    (.region [] [] [0, 1, 5] false [
      (none, .mksl 7 1 (.int .u8 0) 0 []),
      (none, .asg 5 (.v 7) .move)])
    (.seq
     (.seq
      (.region [] [] [0, 1, 5, 6] false [
        (none, .asg 6 (.c (.int .i64 0)) .copy)])
      (.block 0
       (.loop
        (.seq
         (.seq
          (.region [] [] [0, 1, 5, 6, 10] false [
            (none, .mv 8 (.v 6)),
            (none, .mv 9 (.v 1)),
            (none, .bin 10 .lss (.v 8) (.v 9))])
          (.cond (.v 10)
           (.skip [0, 1, 5, 6])
           (.exit 0 [5])))
         (.seq
          (.block 1
           (.region [(13, 5, false)] [] [0, 1, 5, 6] false [
             (none, .mv 13 (.v 5)),
             (none, .mv 14 (.v 0)),
             (none, .mv 15 (.v 0)),
             (none, .len 16 true (.v 15)),
             (none, .mv 17 (.v 1)),
             (none, .mv 18 (.v 6)),
             (none, .call (some 19) 623 false [((.v 16), false), ((.v 17), false), ((.v 18), false)]),
             (none, .idx 20 (.v 14) (.v 19)),
             (none, .mksl 21 1 (.int .u8 0) 1 [(0, (.v 20), .copy)]),
             (none, .app 22 1 (.v 13) (.v 21) .move),
             (none, .asg 5 (.v 22) .move)]))
          (.region [] [] [0, 1, 5, 6] false [
            (none, .mv 11 (.v 6)),
            (none, .bin 12 .add (.v 11) (.c (.int .i64 1))),
            (none, .asg 6 (.v 12) .copy)]))))))
     (.seq
      (.region [(23, 5, false)] [] [4] false [
        (none, .mv 23 (.v 5)),
        (none, .b2s 24 (.v 23)),
        (none, .asg 4 (.v 24) .copy)])
      (.ret [4])))))⟩
def F642 : PFunc :=
 ⟨[true], [.tmp 2],
  (.seq
   (.region [] [] [0] false [
     (none, .asg 2 (.c (.str [])) .copy)])
   (.seq
    (.region [] [] [0, 3] false [
      (none, .mksl 6 1 (.int .u8 0) 0 []),
      (none, .asg 3 (.v 6) .move)])
    (.seq
     (.seq
      (.region [(7, 0, false)] [] [0, 3, 4] false [
        (none, .mv 7 (.v 0)),
        (none, .call (some 8) 7 true [((.v 7), true), ((.c (.int .i64 6)), false)]),
        (none, .bin 9 .add (.c (.int .i64 1)) (.v 8)),
        (none, .asg 4 (.v 9) .copy)])
      (.block 0
       (.loop
        (.seq
         (.seq
          (.region [] [] [0, 3, 4, 11] false [
            (none, .mv 10 (.v 4)),
            (none, .bin 11 .gtr (.v 10) (.c (.int .i64 0)))])
          (.cond (.v 11)
           (.skip [0, 3, 4])
           (.exit 0 [0, 3])))
         (.seq
          (.block 1
           (.region [(15, 0, false), (14, 3, false)] [] [0, 3, 4] false [
             (none, .mv 14 (.v 3)),
             (none, .mv 15 (.v 0)),
             (none, .call (some 16) 7 true [((.v 15), true), ((.c (.int .i64 3)), false)]),
             (none, .idx 17 (.c (.str [97, 98, 99])) (.v 16)),
             (none, .mksl 18 1 (.int .u8 0) 1 [(0, (.v 17), .copy)]),
             (none, .app 19 1 (.v 14) (.v 18) .move),
             (none, .asg 3 (.v 19) .move)]))
          (.region [] [] [0, 3, 4] false [
            (none, .mv 12 (.v 4)),
            (none, .bin 13 .sub (.v 12) (.c (.int .i64 1))),
            (none, .asg 4 (.v 13) .copy)]))))))
     (.seq
      (.region [(20, 3, false)] [] [0, 5] false [
        (none, .mv 20 (.v 3)),
        (none, .b2s 21 (.v 20)),
        (none, .asg 5 (.v 21) .copy)])
      (.seq
       (.seq
        (.region [(22, 0, false)] [] [0, 5, 23] false [
          (none, .mv 22 (.v 0)),
          (none, .call (some 23) 7 true [((.v 22), true), ((.c (.int .i64 4)), false)])])
        (.block 2
         (.seq
          (.region [] [] [0, 5, 23, 24] false [
            (none, .bin 25 .eql (.v 23) (.c (.int .i64 0))),
            (none, .asg 24 (.v 25) .copy)])
          (.cond (.v 24)
           (.region [] [] [0, 5] false [
             (none, .mv 26 (.v 5)),
             (none, .mv 27 (.v 5)),
             (none, .bin 28 .add (.v 26) (.v 27)),
             (none, .asg 5 (.v 28) .copy)])
           (.seq
            (.region [] [] [0, 5, 29] false [
              (none, .bin 30 .eql (.v 23) (.c (.int .i64 1))),
              (none, .asg 29 (.v 30) .copy)])
            (.cond (.v 29)
             (.seq
              (.region [(32, 0, false)] [] [0, 2] false [
                (none, .mv 31 (.v 5)),
                (none, .mv 32 (.v 0)),
                (none, .call (some 33) 7 true [((.v 32), true), ((.c (.int .i64 12)), false)]),
                (none, .bin 34 .add (.c (.int .i64 1)) (.v 33)),
                (none, .call (some 35) 644 false [((.v 31), false), ((.v 34), false)]),
                (none, .asg 2 (.v 35) .copy)])
              (.ret [0, 2]))
             (.skip [0, 5])))))))
       (.seq
        (.region [] [] [0, 2] false [
          (none, .mv 36 (.v 5)),
          (none, .asg 2 (.v 36) .copy)])
        (.ret [0, 2])))))))⟩
def F429 : PFunc :=
 ⟨[false], [.tmp 2],
  (.seq
   (.region [] [] [0] false [
     (none, .asg 2 (.c (.str [])) .copy)])
   (.seq
    (.region [(3, 0, false)] [] [2] false [
      (none, .mv 3 (.v 0)),
      (none, .call (some 4) 603 true [((.v 3), false)]),
      (none, .call (some 5) 642 true [((.v 4), true)]),
      (none, .asg 2 (.v 5) .copy)])
    (.ret [2])))⟩
def F605 : PFunc :=
 ⟨[false, false, false], [.tmp 6],
  (.seq
   (.region [] [] [0, 1, 2] false [
     (none, .asg 6 (.c (.bool false)) .copy)])
   (.seq
    (.region [] [] [6] false [
      (none, .mv 7 (.v 0)),
      (none, .mv 8 (.v 1)),
      (none, .bin 9 .geq (.v 7) (.v 8)),
      (none, .mv 10 (.v 9)),
      (some (10, true), .mv 11 (.v 0)),
      (some (10, true), .mv 12 (.v 2)),
      (some (10, true), .bin 13 .leq (.v 11) (.v 12)),
      (none, .pick 14 (.v 10) (.v 13) (.c (.bool false))),
      (none, .asg 6 (.v 14) .copy)])
    (.ret [6])))⟩
def F620 : PFunc :=
 ⟨[false], [.tmp 2],
  (.seq
   (.region [] [] [0] false [
     (none, .asg 2 (.c (.bool false)) .copy)])
   (.seq
    (.region [] [] [2] false [
      (none, .mv 3 (.v 0)),
      (none, .call (some 4) 605 false [((.v 3), false), ((.c (.int .i64 1)), false), ((.c (.int .i64 48)), false)]),
      (none, .asg 2 (.v 4) .copy)])
    (.ret [2])))⟩
def F618 : PFunc :=
 ⟨[false, false], [.tmp 4],
  (.seq
   (.region [] [] [0, 1] false [
     (none, .asg 4 (.c (.int .i64 0)) .copy)])
   (.seq
    (.seq
     (.region [] [] [12] false [
       (none, .mv 5 (.v 0)),
       (none, .call (some 6) 620 false [((.v 5), false)]),
       (none, .un 7 .not (.v 6)),
       (none, .mv 8 (.v 7)),
       (some (8, false), .mv 9 (.v 1)),
       (some (8, false), .call (some 10) 620 false [((.v 9), false)]),
       (some (8, false), .un 11 .not (.v 10)),
       (none, .pick 12 (.v 8) (.c (.bool true)) (.v 11))])
     (.cond (.v 12)
      (.seq
       (.region [] [] [4] false [
         (none, .asg 4 (.c (.int .i64 2)) .copy)])
       (.ret [4]))
      (.skip [])))
    (.seq
     (.region [] [] [4] false [
       (none, .asg 4 (.c (.int .i64 0)) .copy)])
     (.ret [4]))))⟩
def F622 : PFunc :=
 ⟨[false, false], [.tmp 4],
  (.seq
   (.region [] [] [0, 1] false [
     (none, .asg 4 (.c (.sl true 1 [])) .copy)])
   (.seq
    (.region [] [] [0, 1, 5] false [
      (none, .mksl 7 1 (.int .i64 0) 0 []),
      (none, .asg 5 (.v 7) .move)])
    (.seq
     (.seq
      (.region [] [] [0, 1, 5, 6] false [
        (none, .asg 6 (.c (.int .i64 0)) .copy)])
      (.block 0
       (.loop
        (.seq
         (.seq
          (.region [] [] [0, 1, 5, 6, 10] false [
            (none, .mv 8 (.v 6)),
            (none, .mv 9 (.v 1)),
            (none, .bin 10 .lss (.v 8) (.v 9))])
          (.cond (.v 10)
           (.skip [0, 1, 5, 6])
           (.exit 0 [5])))
         (.seq
          (.block 1
           (.region [(13, 5, false)] [] [0, 1, 5, 6] false [
             (none, .mv 13 (.v 5)),
             (none, .mv 14 (.v 0)),
             (none, .mv 15 (.v 1)),
             (none, .mv 16 (.v 6)),
             (none, .call (some 17) 623 false [((.v 14), false), ((.v 15), false), ((.v 16), false)]),
             (none, .mksl 18 1 (.int .i64 0) 1 [(0, (.v 17), .copy)]),
             (none, .app 19 1 (.v 13) (.v 18) .move),
             (none, .asg 5 (.v 19) .move)]))
          (.region [] [] [0, 1, 5, 6] false [
            (none, .mv 11 (.v 6)),
            (none, .bin 12 .add (.v 11) (.c (.int .i64 1))),
            (none, .asg 6 (.v 12) .copy)]))))))
     (.seq
      (.region [(20, 5, false)] [] [4] false [
        (none, .mv 20 (.v 5)),
        (none, .asg 4 (.v 20) .move)])
      (.ret [4])))))⟩
def F567 : PFunc :=
 ⟨[false, false], [.tmp 4, .tmp 5],
  (.seq
   (.region [] [] [0, 1] false [
     (none, .asg 4 (.c (.sl true 1 [])) .copy),
     (none, .asg 5 (.c (.int .i64 0)) .copy)])
   (.seq
    (.region [] [] [0, 1, 6] false [
      (none, .mv 7 (.v 0)),
      (none, .mv 8 (.v 1)),
      (none, .call (some 9) 618 false [((.v 7), false), ((.v 8), false)]),
      (none, .asg 6 (.v 9) .copy)])
    (.seq
     (.seq
      (.region [] [] [0, 1, 6, 11] false [
        (none, .mv 10 (.v 6)),
        (none, .bin 11 .neq (.v 10) (.c (.int .i64 0)))])
      (.cond (.v 11)
       (.seq
        (.region [] [] [4, 5] false [
          (none, .mv 12 (.v 6)),
          (none, .asg 4 (.c (.sl true 1 [])) .copy),
          (none, .asg 5 (.v 12) .copy)])
        (.ret [4, 5]))
       (.skip [0, 1])))
     (.seq
      (.region [] [] [4, 5] false [
        (none, .mv 13 (.v 0)),
        (none, .mv 14 (.v 1)),
        (none, .call (some 15) 622 false [((.v 13), false), ((.v 14), false)]),
        (none, .asg 4 (.v 15) .move),
        (none, .asg 5 (.c (.int .i64 0)) .copy)])
      (.ret [4, 5])))))⟩
def F332 : PFunc :=
 ⟨[false, false], [.tmp 4],
  (.seq
   (.region [] [] [0, 1] false [
     (none, .asg 4 (.c (.bool false)) .copy)])
   (.seq
    (.seq
     (.region [(19, 1, false), (18, 0, false)] [] [0, 1, 20] false [
       (none, .mv 18 (.v 0)),
       (none, .mv 19 (.v 1)),
       (none, .call (some 20) 386 false [((.v 18), false), ((.v 19), false)])])
     (.cond (.v 20)
      (.seq
       (.region [] [] [4] false [
         (none, .asg 4 (.c (.bool true)) .copy)])
       (.ret [4]))
      (.skip [0, 1])))
    (.seq
     (.region [(21, 0, false)] [] [1, 5] false [
       (none, .mv 21 (.v 0)),
       (none, .call (some 22) 429 false [((.v 21), false)]),
       (none, .asg 5 (.v 22) .copy)])
     (.seq
      (.region [(23, 1, false)] [] [5, 6] false [
        (none, .mv 23 (.v 1)),
        (none, .call (some 24) 384 false [((.v 23), false), ((.c (.int .i64 0)), false), ((.c (.int .i64 12)), false)]),
        (none, .bin 25 .add (.c (.int .i64 1)) (.v 24)),
        (none, .asg 6 (.v 25) .copy)])
      (.seq
       (.region [] [] [5, 6, 7, 8] false [
         (none, .mv 27 (.v 5)),
         (none, .mv 28 (.v 6)),
         (none, .call (some 29) 147 false [((.v 27), false), ((.v 28), false)]),
         (none, .asg 26 (.v 29) .copy),
         (none, .extp 30 (.v 26) 0),
         (none, .extp 31 (.v 26) 1),
         (none, .asg 7 (.v 30) .copy),
         (none, .asg 8 (.v 31) .copy)])
       (.seq
        (.region [] [] [5, 6, 7, 8, 9, 10] false [
          (none, .mv 33 (.v 7)),
          (none, .mv 34 (.v 5)),
          (none, .len 35 true (.v 34)),
          (none, .call (some 36) 73 false [((.v 33), false), ((.v 35), false)]),
          (none, .asg 32 (.v 36) .copy),
          (none, .extp 37 (.v 32) 0),
          (none, .extp 38 (.v 32) 1),
          (none, .asg 9 (.v 37) .copy),
          (none, .asg 10 (.v 38) .copy)])
        (.seq
         (.region [] [] [5, 6, 7, 8, 9, 10, 11, 12] false [
           (none, .mv 40 (.v 9)),
           (none, .mv 41 (.v 6)),
           (none, .call (some 42) 147 false [((.v 40), false), ((.v 41), false)]),
           (none, .asg 39 (.v 42) .copy),
           (none, .extp 43 (.v 39) 0),
           (none, .extp 44 (.v 39) 1),
           (none, .asg 11 (.v 43) .copy),
           (none, .asg 12 (.v 44) .copy)])
         (.seq
          (.region [] [] [5, 6, 7, 8, 9, 10, 11, 12, 13, 14] false [
            (none, .mv 46 (.v 7)),
            (none, .call (some 47) 91 false [((.v 46), false)]),
            (none, .asg 45 (.v 47) .copy),
            (none, .extp 48 (.v 45) 0),
            (none, .extp 49 (.v 45) 1),
            (none, .asg 13 (.v 48) .copy),
            (none, .asg 14 (.v 49) .copy)])
          (.seq
           (.seq
            (.region [] [] [5, 6, 7, 9, 96] false [
              (none, .mv 50 (.v 8)),
              (none, .bin 51 .neq (.v 50) (.c (.int .i64 0))),
              (none, .mv 52 (.v 51)),
              (some (52, false), .mv 53 (.v 7)),
              (some (52, false), .len 54 true (.v 53)),
              (some (52, false), .mv 55 (.v 6)),
              (some (52, false), .bin 56 .neq (.v 54) (.v 55)),
              (none, .pick 57 (.v 52) (.c (.bool true)) (.v 56)),
              (none, .mv 58 (.v 57)),
              (some (58, false), .mv 59 (.v 10)),
              (some (58, false), .bin 60 .neq (.v 59) (.c (.int .i64 0))),
              (none, .pick 61 (.v 58) (.c (.bool true)) (.v 60)),
              (none, .mv 62 (.v 61)),
              (some (62, false), .mv 63 (.v 9)),
              (some (62, false), .len 64 true (.v 63)),
              (some (62, false), .mv 65 (.v 5)),
              (some (62, false), .len 66 true (.v 65)),
              (some (62, false), .bin 67 .neq (.v 64) (.v 66)),
              (none, .pick 68 (.v 62) (.c (.bool true)) (.v 67)),
              (none, .mv 69 (.v 68)),
              (some (69, false), .mv 70 (.v 12)),
              (some (69, false), .bin 71 .neq (.v 70) (.c (.int .i64 0))),
              (none, .pick 72 (.v 69) (.c (.bool true)) (.v 71)),
              (none, .mv 73 (.v 72)),
              (some (73, false), .mv 74 (.v 11)),
              (some (73, false), .mv 75 (.v 7)),
              (some (73, false), .bin 76 .neq (.v 74) (.v 75)),
              (none, .pick 77 (.v 73) (.c (.bool true)) (.v 76)),
              (none, .mv 78 (.v 77)),
              (some (78, false), .mv 79 (.v 14)),
              (some (78, false), .bin 80 .neq (.v 79) (.c (.int .i64 0))),
              (none, .pick 81 (.v 78) (.c (.bool true)) (.v 80)),
              (none, .mv 82 (.v 81)),
              (some (82, false), .mv 83 (.v 13)),
              (some (82, false), .bin 84 .lss (.v 83) (.c (.int .i64 1))),
              (none, .pick 85 (.v 82) (.c (.bool true)) (.v 84)),
              (none, .mv 86 (.v 85)),
              (some (86, false), .mv 87 (.v 13)),
              (some (86, false), .mv 88 (.v 5)),
              (some (86, false), .len 89 true (.v 88)),
              (some (86, false), .bin 90 .gtr (.v 87) (.v 89)),
              (none, .pick 91 (.v 86) (.c (.bool true)) (.v 90)),
              (none, .mv 92 (.v 91)),
              (some (92, false), .mv 93 (.v 13)),
              (some (92, false), .mv 94 (.v 6)),
              (some (92, false), .bin 95 .gtr (.v 93) (.v 94)),
              (none, .pick 96 (.v 92) (.c (.bool true)) (.v 95))])
            (.cond (.v 96)
             (.seq
              (.region [] [] [4] false [
                (none, .asg 4 (.c (.bool false)) .copy)])
              (.ret [4]))
             (.skip [5, 6, 7, 9])))
           (.seq
            (.region [] [] [5, 6, 7, 9, 15, 16] false [
              (none, .mv 98 (.v 5)),
              (none, .len 99 true (.v 98)),
              (none, .mv 100 (.v 6)),
              (none, .call (some 101) 567 false [((.v 99), false), ((.v 100), false)]),
              (none, .asg 97 (.v 101) .move),
              (none, .ext 102 (.v 97) 0),
              (none, .extp 103 (.v 97) 1),
              (none, .asg 15 (.v 102) .move),
              (none, .asg 16 (.v 103) .copy)])
            (.seq
             (.seq
              (.region [(107, 15, false)] [] [5, 7, 9, 15, 111] false [
                (none, .mv 104 (.v 16)),
                (none, .bin 105 .neq (.v 104) (.c (.int .i64 0))),
                (none, .mv 106 (.v 105)),
                (some (106, false), .mv 107 (.v 15)),
                (some (106, false), .len 108 false (.v 107)),
                (some (106, false), .mv 109 (.v 6)),
                (some (106, false), .bin 110 .neq (.v 108) (.v 109)),
                (none, .pick 111 (.v 106) (.c (.bool true)) (.v 110))])
              (.cond (.v 111)
               (.seq
                (.region [] [] [4] false [
                  (none, .asg 4 (.c (.bool false)) .copy)])
                (.ret [4]))
               (.skip [5, 7, 9, 15])))
             (.seq
              (.seq
               (.region [] [] [5, 7, 9, 15, 17] false [
                 (none, .asg 17 (.c (.int .i64 0)) .copy)])
               (.block 0
                (.loop
                 (.seq
                  (.seq
                   (.region [(113, 15, false)] [] [5, 7, 9, 15, 17, 115] false [
                     (none, .mv 112 (.v 17)),
                     (none, .mv 113 (.v 15)),
                     (none, .len 114 false (.v 113)),
                     (none, .bin 115 .lss (.v 112) (.v 114))])
                   (.cond (.v 115)
                    (.skip [5, 7, 9, 15, 17])
                    (.exit 0 [])))
                  (.seq
                   (.block 1
                    (.seq
                     (.region [(138, 15, false), (136, 15, false), (132, 15, false), (130, 15, false), (124, 15, false), (122, 15, false)] [] [5, 7, 9, 15, 17, 142] true [
                       (none, .mv 118 (.v 7)),
                       (none, .mv 119 (.v 17)),
                       (none, .idx 120 (.v 118) (.v 119)),
                       (none, .mv 121 (.v 5)),
                       (none, .mv 122 (.v 15)),
                       (none, .mv 123 (.v 17)),
                       (none, .iadr 124 1 (.v 122) (.v 123)),
                       (none, .load 125 false 1 (.v 124) none),
                       (none, .idx 126 (.v 121) (.v 125)),
                       (none, .bin 127 .neq (.v 120) (.v 126)),
                       (none, .mv 128 (.v 127)),
                       (some (128, false), .mv 129 (.v 9)),
                       (some (128, false), .mv 130 (.v 15)),
                       (some (128, false), .mv 131 (.v 17)),
                       (some (128, false), .iadr 132 1 (.v 130) (.v 131)),
                       (some (128, false), .load 133 false 1 (.v 132) none),
                       (some (128, false), .idx 134 (.v 129) (.v 133)),
                       (some (128, false), .mv 135 (.v 5)),
                       (some (128, false), .mv 136 (.v 15)),
                       (some (128, false), .mv 137 (.v 17)),
                       (some (128, false), .iadr 138 1 (.v 136) (.v 137)),
                       (some (128, false), .load 139 false 1 (.v 138) none),
                       (some (128, false), .idx 140 (.v 135) (.v 139)),
                       (some (128, false), .bin 141 .neq (.v 134) (.v 140)),
                       (none, .pick 142 (.v 128) (.c (.bool true)) (.v 141))])
                     (.cond (.v 142)
                      (.seq
                       (.region [] [] [4] false [
                         (none, .asg 4 (.c (.bool false)) .copy)])
                       (.ret [4]))
                      (.skip [5, 7, 9, 15, 17]))))
                   (.region [] [] [5, 7, 9, 15, 17] false [
                     (none, .mv 116 (.v 17)),
                     (none, .bin 117 .add (.v 116) (.c (.int .i64 1))),
                     (none, .asg 17 (.v 117) .copy)]))))))
              (.seq
               (.region [] [] [4] false [
                 (none, .asg 4 (.c (.bool true)) .copy)])
               (.ret [4]))))))))))))))⟩
def tabl : List (Nat × PFunc) := [(277, F277), (222, F222), (294, F294), (304, F304), (261, F261), (326, F326), (73, F73), (91, F91), (147, F147), (384, F384), (386, F386), (603, F603), (5, F5), (7, F7), (602, F602), (610, F610), (621, F621), (623, F623), (644, F644), (642, F642), (429, F429), (605, F605), (620, F620), (618, F618), (622, F622), (567, F567), (332, F332)]
def T : Nat → Option PFunc := tabOf tabl
end Go.Vs.G
