/- The functions that the law reaches, in the small language, printed by program. No conditions. -/
import Derived.Test.YtiefnapeghkjnaaDLLensSets
import Derived.Test.YtiefnapeghkjnaaV4
set_option maxRecDepth 100000
open Go Go.Vs
namespace Go.Vs.G
def F326 : PFunc :=
 ⟨[false, false, false], [.tmp 6],
  (.seq
   (.region [] [] [0, 1, 2] false [
     (none, .asg 6 (.c (.bool false)) .copy)])
   (.seq
    (.region [] [] [6] false [
      (none, .mv 7 (.v 0)),
      (none, .mv 8 (.v 1)),
      (none, .bin 9 .geq (.v 7) (.v 8)),
      (none, .mv 10 (.v 9)),
      (some (10, true), .mv 11 (.v 0)),
      (some (10, true), .mv 12 (.v 2)),
      (some (10, true), .bin 13 .leq (.v 11) (.v 12)),
      (none, .pick 14 (.v 10) (.v 13) (.c (.bool false))),
      (none, .asg 6 (.v 14) .copy)])
    (.ret [6])))⟩
def F281 : PFunc :=
 ⟨[false], [.tmp 2],
  (.seq
   (.region [] [] [0] false [
     (none, .asg 2 (.c (.bool false)) .copy)])
   (.seq
    (.region [] [] [2] false [
      (none, .mv 3 (.v 0)),
      (none, .call (some 4) 326 false [((.v 3), false), ((.c (.int .i64 1)), false), ((.c (.int .i64 100000)), false)]),
      (none, .asg 2 (.v 4) .copy)])
    (.ret [2])))⟩
def F322 : PFunc :=
 ⟨[false], [.tmp 2],
  (.seq
   (.region [] [] [1] false [
     (none, .box 1 (.v 0) .copy),
     (none, .asg 2 (.c (.bool false)) .copy)])
   (.seq
    (.region [(19, 1, false), (14, 1, false), (12, 1, false), (7, 1, false), (3, 1, false)] [] [2] false [
      (none, .fadr 3 0 1 (.v 1)),
      (none, .load 4 false 1 (.v 3) none),
      (none, .call (some 5) 281 false [((.v 4), false)]),
      (none, .mv 6 (.v 5)),
      (some (6, true), .fadr 7 1 1 (.v 1)),
      (some (6, true), .load 8 false 1 (.v 7) none),
      (some (6, true), .bin 9 .leq (.c (.int .i64 1)) (.v 8)),
      (none, .pick 10 (.v 6) (.v 9) (.c (.bool false))),
      (none, .mv 11 (.v 10)),
      (some (11, true), .fadr 12 1 1 (.v 1)),
      (some (11, true), .load 13 false 1 (.v 12) none),
      (some (11, true), .fadr 14 2 1 (.v 1)),
      (some (11, true), .load 15 false 1 (.v 14) none),
      (some (11, true), .bin 16 .leq (.v 13) (.v 15)),
      (none, .pick 17 (.v 11) (.v 16) (.c (.bool false))),
      (none, .mv 18 (.v 17)),
      (some (18, true), .fadr 19 2 1 (.v 1)),
      (some (18, true), .load 20 false 1 (.v 19) none),
      (some (18, true), .bin 21 .leq (.v 20) (.c (.int .i64 100000))),
      (none, .pick 22 (.v 18) (.v 21) (.c (.bool false))),
      (none, .asg 2 (.v 22) .copy)])
    (.ret [2])))⟩
def F219 : PFunc :=
 ⟨[false], [.tmp 2],
  (.seq
   (.region [] [] [1] false [
     (none, .box 1 (.v 0) .copy),
     (none, .asg 2 (.c (.bool false)) .copy)])
   (.seq
    (.region [] [] [2] false [
      (none, .load 3 true 3 (.v 1) none),
      (none, .call (some 4) 322 false [((.v 3), false)]),
      (none, .un 5 .not (.v 4)),
      (none, .asg 2 (.v 5) .copy)])
    (.ret [2])))⟩
def F824 : PFunc :=
 ⟨[false, false], [.tmp 4],
  (.seq
   (.region [] [] [0, 1] false [
     (none, .asg 4 (.c (.int .i64 0)) .copy)])
   (.seq
    (.seq
     (.region [(6, 0, false)] [] [0, 1, 7, 8] false [
       (none, .mv 6 (.v 0)),
       (none, .len 7 false (.v 6)),
       (none, .mv 8 (.c (.int .i64 0)))])
     (.block 0
      (.loop
       (.seq
        (.region [] [] [0, 1, 7, 8, 9] false [
          (none, .bin 9 .lss (.v 8) (.v 7))])
        (.seq
         (.cond (.v 9)
          (.skip [0, 1, 7, 8])
          (.exit 0 []))
         (.seq
          (.block 1
           (.seq
            (.region [] [] [0, 1, 5, 7, 8] false [
              (none, .mv 10 (.v 8)),
              (none, .asg 5 (.v 10) .copy)])
            (.seq
             (.region [(14, 0, false), (12, 0, false), (11, 1, false)] [] [0, 1, 5, 7, 8, 16] false [
               (none, .mv 11 (.v 1)),
               (none, .mv 12 (.v 0)),
               (none, .mv 13 (.v 5)),
               (none, .iadr 14 3 (.v 12) (.v 13)),
               (none, .load 15 true 3 (.v 14) none),
               (none, .callv (some 16) (.v 11) [(.v 15)])])
             (.cond (.v 16)
              (.seq
               (.region [] [] [4] false [
                 (none, .mv 17 (.v 5)),
                 (none, .asg 4 (.v 17) .copy)])
               (.ret [4]))
              (.skip [0, 1, 7, 8])))))
          (.region [] [] [0, 1, 7, 8] false [
            (none, .bin 18 .add (.v 8) (.c (.int .i64 1))),
            (none, .mv 8 (.v 18))])))))))
    (.seq
     (.region [] [] [4] false [
       (none, .asg 4 (.c (.int .i64 (-1))) .copy)])
     (.ret [4]))))⟩
def F802 : PFunc :=
 ⟨[false, false], [.tmp 4],
  (.seq
   (.region [] [] [0, 1] false [
     (none, .asg 4 (.c (.bool false)) .copy)])
   (.seq
    (.region [(6, 1, false), (5, 0, false)] [] [4] false [
      (none, .mv 5 (.v 0)),
      (none, .mv 6 (.v 1)),
      (none, .call (some 7) 824 false [((.v 5), false), ((.v 6), false)]),
      (none, .bin 8 .geq (.v 7) (.c (.int .i64 0))),
      (none, .asg 4 (.v 8) .copy)])
    (.ret [4])))⟩
def F218 : PFunc :=
 ⟨[false], [.tmp 2],
  (.seq
   (.region [] [] [0] false [
     (none, .asg 2 (.c (.bool false)) .copy)])
   (.seq
    (.region [(7, 0, false), (3, 0, false)] [] [2] false [
      (none, .mv 3 (.v 0)),
      (none, .len 4 false (.v 3)),
      (none, .bin 5 .leq (.v 4) (.c (.int .i64 8))),
      (none, .mv 6 (.v 5)),
      (some (6, true), .mv 7 (.v 0)),
      (some (6, true), .call (some 8) 802 false [((.v 7), false), ((.c (.fn 219 [])), false)]),
      (some (6, true), .un 9 .not (.v 8)),
      (none, .pick 10 (.v 6) (.v 9) (.c (.bool false))),
      (none, .asg 2 (.v 10) .copy)])
    (.ret [2])))⟩
def F275 : PFunc :=
 ⟨[false], [.tmp 2],
  (.seq
   (.region [] [] [0] false [
     (none, .asg 2 (.c (.bool false)) .copy)])
   (.seq
    (.region [] [] [2] false [
      (none, .mv 3 (.v 0)),
      (none, .call (some 4) 326 false [((.v 3), false), ((.c (.int .i64 1)), false), ((.c (.int .i64 2000)), false)]),
      (none, .asg 2 (.v 4) .copy)])
    (.ret [2])))⟩
def F288 : PFunc :=
 ⟨[false], [.tmp 2],
  (.seq
   (.region [] [] [0] false [
     (none, .asg 2 (.c (.bool false)) .copy)])
   (.seq
    (.region [] [] [2] false [
      (none, .mv 3 (.v 0)),
      (none, .call (some 4) 275 false [((.v 3), false)]),
      (none, .un 5 .not (.v 4)),
      (none, .asg 2 (.v 5) .copy)])
    (.ret [2])))⟩
def F818 : PFunc :=
 ⟨[false, false], [.tmp 4],
  (.seq
   (.region [] [] [0, 1] false [
     (none, .asg 4 (.c (.int .i64 0)) .copy)])
   (.seq
    (.seq
     (.region [(6, 0, false)] [] [0, 1, 7, 8] false [
       (none, .mv 6 (.v 0)),
       (none, .len 7 false (.v 6)),
       (none, .mv 8 (.c (.int .i64 0)))])
     (.block 0
      (.loop
       (.seq
        (.region [] [] [0, 1, 7, 8, 9] false [
          (none, .bin 9 .lss (.v 8) (.v 7))])
        (.seq
         (.cond (.v 9)
          (.skip [0, 1, 7, 8])
          (.exit 0 []))
         (.seq
          (.block 1
           (.seq
            (.region [] [] [0, 1, 5, 7, 8] false [
              (none, .mv 10 (.v 8)),
              (none, .asg 5 (.v 10) .copy)])
            (.seq
             (.region [(14, 0, false), (12, 0, false), (11, 1, false)] [] [0, 1, 5, 7, 8, 16] false [
               (none, .mv 11 (.v 1)),
               (none, .mv 12 (.v 0)),
               (none, .mv 13 (.v 5)),
               (none, .iadr 14 1 (.v 12) (.v 13)),
               (none, .load 15 false 1 (.v 14) none),
               (none, .callv (some 16) (.v 11) [(.v 15)])])
             (.cond (.v 16)
              (.seq
               (.region [] [] [4] false [
                 (none, .mv 17 (.v 5)),
                 (none, .asg 4 (.v 17) .copy)])
               (.ret [4]))
              (.skip [0, 1, 7, 8])))))
          (.region [] [] [0, 1, 7, 8] false [
            (none, .bin 18 .add (.v 8) (.c (.int .i64 1))),
            (none, .mv 8 (.v 18))])))))))
    (.seq
     (.region [] [] [4] false [
       (none, .asg 4 (.c (.int .i64 (-1))) .copy)])
     (.ret [4]))))⟩
def F796 : PFunc :=
 ⟨[false, false], [.tmp 4],
  (.seq
   (.region [] [] [0, 1] false [
     (none, .asg 4 (.c (.bool false)) .copy)])
   (.seq
    (.region [(6, 1, false), (5, 0, false)] [] [4] false [
      (none, .mv 5 (.v 0)),
      (none, .mv 6 (.v 1)),
      (none, .call (some 7) 818 false [((.v 5), false), ((.v 6), false)]),
      (none, .bin 8 .geq (.v 7) (.c (.int .i64 0))),
      (none, .asg 4 (.v 8) .copy)])
    (.ret [4])))⟩
def F287 : PFunc :=
 ⟨[false, false], [.tmp 4],
  (.seq
   (.region [] [] [0, 1] false [
     (none, .asg 4 (.c (.bool false)) .copy)])
   (.seq
    (.region [(10, 0, false), (5, 0, false)] [] [4] false [
      (none, .mv 5 (.v 0)),
      (none, .len 6 false (.v 5)),
      (none, .mv 7 (.v 1)),
      (none, .bin 8 .leq (.v 6) (.v 7)),
      (none, .mv 9 (.v 8)),
      (some (9, true), .mv 10 (.v 0)),
      (some (9, true), .call (some 11) 796 false [((.v 10), false), ((.c (.fn 288 [])), false)]),
      (some (9, true), .un 12 .not (.v 11)),
      (none, .pick 13 (.v 9) (.v 12) (.c (.bool false))),
      (none, .asg 4 (.v 13) .copy)])
    (.ret [4])))⟩
def F270 : PFunc :=
 ⟨[false, false, false, false], [.tmp 8],
  (.seq
   (.region [] [] [0, 1, 2, 3] false [
     (none, .asg 8 (.c (.int .i64 0)) .copy)])
   (.seq
    (.block 0
     (.seq
      (.region [] [] [1, 2, 3, 9] false [
        (none, .mv 10 (.v 0)),
        (none, .un 11 .not (.v 10)),
        (none, .asg 9 (.v 11) .copy)])
      (.cond (.v 9)
       (.seq
        (.region [] [] [8] false [
          (none, .asg 8 (.c (.int .i64 1)) .copy)])
        (.ret [8]))
       (.seq
        (.region [(22, 3, false)] [] [12] false [
          (none, .mv 13 (.v 1)),
          (none, .call (some 14) 326 false [((.v 13), false), ((.c (.int .i64 1)), false), ((.c (.int .i64 200)), false)]),
          (none, .un 15 .not (.v 14)),
          (none, .mv 16 (.v 15)),
          (some (16, false), .mv 17 (.v 2)),
          (some (16, false), .call (some 18) 275 false [((.v 17), false)]),
          (some (16, false), .un 19 .not (.v 18)),
          (none, .pick 20 (.v 16) (.c (.bool true)) (.v 19)),
          (none, .mv 21 (.v 20)),
          (some (21, false), .mv 22 (.v 3)),
          (some (21, false), .call (some 23) 287 false [((.v 22), false), ((.c (.int .i64 12)), false)]),
          (some (21, false), .un 24 .not (.v 23)),
          (none, .pick 25 (.v 21) (.c (.bool true)) (.v 24)),
          (none, .asg 12 (.v 25) .copy)])
        (.cond (.v 12)
         (.seq
          (.region [] [] [8] false [
            (none, .asg 8 (.c (.int .i64 2)) .copy)])
          (.ret [8]))
         (.skip []))))))
    (.seq
     (.region [] [] [8] false [
       (none, .asg 8 (.c (.int .i64 0)) .copy)])
     (.ret [8]))))⟩
def F314 : PFunc :=
 ⟨[false, false, false], [.tmp 6],
  (.seq
   (.region [] [] [1, 2, 3] false [
     (none, .box 3 (.v 0) .copy),
     (none, .asg 6 (.c (.bool false)) .copy)])
   (.seq
    (.region [(9, 3, false)] [] [2, 3, 7] false [
      (none, .mv 8 (.v 1)),
      (none, .fadr 9 0 1 (.v 3)),
      (none, .load 10 false 1 (.v 9) none),
      (none, .mv 11 (.v 2)),
      (none, .bin 12 .sub (.v 10) (.v 11)),
      (none, .bin 13 .mul (.v 8) (.v 12)),
      (none, .asg 7 (.v 13) .copy)])
    (.seq
     (.region [(22, 3, false), (15, 3, false)] [] [6] false [
       (none, .mv 14 (.v 7)),
       (none, .fadr 15 1 1 (.v 3)),
       (none, .load 16 false 1 (.v 15) none),
       (none, .mv 17 (.v 2)),
       (none, .bin 18 .mul (.v 16) (.v 17)),
       (none, .bin 19 .geq (.v 14) (.v 18)),
       (none, .mv 20 (.v 19)),
       (some (20, true), .mv 21 (.v 7)),
       (some (20, true), .fadr 22 2 1 (.v 3)),
       (some (20, true), .load 23 false 1 (.v 22) none),
       (some (20, true), .mv 24 (.v 2)),
       (some (20, true), .bin 25 .mul (.v 23) (.v 24)),
       (some (20, true), .bin 26 .leq (.v 21) (.v 25)),
       (none, .pick 27 (.v 20) (.v 26) (.c (.bool false))),
       (none, .asg 6 (.v 27) .copy)])
     (.ret [6]))))⟩
def F244 : PFunc :=
 ⟨[false, false, false], [.tmp 4],
  (.seq
   (.region [] [] [0, 1, 2] false [
     (none, .asg 4 (.c (.bool false)) .copy)])
   (.seq
    (.region [] [] [4] false [
      (none, .load 5 true 3 (.v 1) none),
      (none, .load 6 false 1 (.v 2) none),
      (none, .mv 7 (.v 0)),
      (none, .call (some 8) 314 false [((.v 5), false), ((.v 6), false), ((.v 7), false)]),
      (none, .asg 4 (.v 8) .copy)])
    (.ret [4])))⟩
def F243 : PFunc :=
 ⟨[false, false, false], [.tmp 6],
  (.seq
   (.region [] [] [2, 3, 4] false [
     (none, .box 3 (.v 0) .copy),
     (none, .box 4 (.v 1) .copy),
     (none, .asg 6 (.c (.bool false)) .copy)])
   (.seq
    (.region [(7, 2, false)] [3, 4] [6] false [
      (none, .mv 7 (.v 2)),
      (none, .mkfn 8 244 [3, 4]),
      (none, .call (some 9) 796 false [((.v 7), false), ((.v 8), false)]),
      (none, .asg 6 (.v 9) .copy)])
    (.ret [6])))⟩
def F271 : PFunc :=
 ⟨[false, false, false], [.tmp 6],
  (.seq
   (.region [] [] [0, 1, 2] false [
     (none, .asg 6 (.c (.sl true 1 [])) .copy)])
   (.seq
    (.region [] [] [0, 1, 2, 7] false [
      (none, .mksl 10 1 (.int .i64 0) 0 []),
      (none, .asg 7 (.v 10) .move)])
    (.seq
     (.seq
      (.region [(11, 0, false)] [] [0, 1, 2, 7, 11, 12, 13] false [
        (none, .mv 11 (.v 0)),
        (none, .len 12 false (.v 11)),
        (none, .mv 13 (.c (.int .i64 0)))])
      (.block 0
       (.loop
        (.seq
         (.region [(11, 0, false)] [] [0, 1, 2, 7, 11, 12, 13, 14] false [
           (none, .bin 14 .lss (.v 13) (.v 12))])
         (.seq
          (.cond (.v 14)
           (.skip [0, 1, 2, 7, 11, 12, 13])
           (.exit 0 [7]))
          (.seq
           (.block 1
            (.seq
             (.region [(16, 0, false), (11, 0, false)] [] [0, 1, 2, 7, 8, 9, 11, 12, 13] false [
               (none, .mv 15 (.v 13)),
               (none, .iadr 16 3 (.v 11) (.v 13)),
               (none, .load 17 true 3 (.v 16) none),
               (none, .new 9 (.agg [(.int .i64 0), (.int .i64 0), (.int .i64 0)])),
               (none, .asg 8 (.v 15) .copy),
               (none, .store 3 (.v 9) (.v 17) .copy)])
             (.seq
              (.region [(20, 2, false), (11, 0, false)] [] [0, 1, 2, 7, 8, 11, 12, 13, 22] false [
                (none, .load 18 true 3 (.v 9) none),
                (none, .mv 19 (.v 1)),
                (none, .mv 20 (.v 2)),
                (none, .call (some 21) 243 false [((.v 18), false), ((.v 19), false), ((.v 20), false)]),
                (none, .un 22 .not (.v 21))])
              (.cond (.v 22)
               (.region [(23, 7, false), (11, 0, false)] [] [0, 1, 2, 7, 11, 12, 13] false [
                 (none, .mv 23 (.v 7)),
                 (none, .mv 24 (.v 8)),
                 (none, .mksl 25 1 (.int .i64 0) 1 [(0, (.v 24), .copy)]),
                 (none, .app 26 1 (.v 23) (.v 25) .move),
                 (none, .asg 7 (.v 26) .move)])
               (.skip [0, 1, 2, 7, 11, 12, 13])))))
           (.region [(11, 0, false)] [] [0, 1, 2, 7, 11, 12, 13] false [
             (none, .bin 27 .add (.v 13) (.c (.int .i64 1))),
             (none, .mv 13 (.v 27))])))))))
     (.seq
      (.region [(28, 7, false)] [] [6] false [
        (none, .mv 28 (.v 7)),
        (none, .asg 6 (.v 28) .move)])
      (.ret [6])))))⟩
def F50 : PFunc :=
 ⟨[false, false, false], [.tmp 6, .tmp 7, .tmp 8],
  (.seq
   (.region [] [] [0, 1, 2] false [
     (none, .asg 6 (.c (.int .i64 0)) .copy),
     (none, .asg 7 (.c (.int .i64 0)) .copy),
     (none, .asg 8 (.c (.int .i64 0)) .copy)])
   (.seq
    (.seq
     (.region [(20, 2, false), (17, 0, false)] [] [0, 1, 2, 9] false [
       (none, .mv 17 (.v 0)),
       (none, .call (some 18) 218 false [((.v 17), false)]),
       (none, .mv 19 (.v 1)),
       (none, .mv 20 (.v 2)),
       (none, .call (some 21) 270 false [((.v 18), false), ((.v 19), false), ((.c (.int .i64 1)), false), ((.v 20), false)]),
       (none, .asg 9 (.v 21) .copy)])
     (.seq
      (.region [] [] [0, 1, 2, 9, 23] false [
        (none, .mv 22 (.v 9)),
        (none, .bin 23 .neq (.v 22) (.c (.int .i64 0)))])
      (.cond (.v 23)
       (.seq
        (.region [] [] [6, 7, 8] false [
          (none, .mv 24 (.v 9)),
          (none, .asg 6 (.c (.int .i64 0)) .copy),
          (none, .asg 7 (.c (.int .i64 0)) .copy),
          (none, .asg 8 (.v 24) .copy)])
        (.ret [6, 7, 8]))
       (.skip [0, 1, 2]))))
    (.seq
     (.region [(27, 2, false), (25, 0, false)] [] [0, 1, 10, 11, 12] false [
       (none, .mv 25 (.v 0)),
       (none, .mv 26 (.v 1)),
       (none, .mv 27 (.v 2)),
       (none, .call (some 28) 271 false [((.v 25), false), ((.v 26), false), ((.v 27), false)]),
       (none, .asg 10 (.v 28) .move),
       (none, .asg 11 (.c (.int .i64 0)) .copy),
       (none, .asg 12 (.c (.int .i64 0)) .copy)])
     (.seq
      (.seq
       (.region [] [] [0, 1, 10, 11, 12, 13] false [
         (none, .asg 13 (.c (.int .i64 1)) .copy)])
       (.block 0
        (.loop
         (.seq
          (.seq
           (.region [] [] [0, 1, 10, 11, 12, 13, 30] false [
             (none, .mv 29 (.v 13)),
             (none, .bin 30 .leq (.v 29) (.c (.int .i64 2000)))])
           (.cond (.v 30)
            (.skip [0, 1, 10, 11, 12, 13])
            (.exit 0 [11, 12])))
          (.seq
           (.block 1
            (.seq
             (.region [] [] [0, 1, 10, 11, 12, 13, 14] false [
               (none, .asg 14 (.c (.int .i64 0)) .copy)])
             (.seq
              (.seq
               (.region [(33, 10, false)] [] [0, 1, 10, 11, 12, 13, 14, 33, 34, 35] false [
                 (none, .mv 33 (.v 10)),
                 (none, .len 34 false (.v 33)),
                 (none, .mv 35 (.c (.int .i64 0)))])
               (.block 2
                (.loop
                 (.seq
                  (.region [(33, 10, false)] [] [0, 1, 10, 11, 12, 13, 14, 33, 34, 35, 36] false [
                    (none, .bin 36 .lss (.v 35) (.v 34))])
                  (.seq
                   (.cond (.v 36)
                    (.skip [0, 1, 10, 11, 12, 13, 14, 33, 34, 35])
                    (.exit 2 [0, 1, 10, 11, 12, 13, 14]))
                   (.seq
                    (.block 3
                     (.seq
                      (.region [(37, 10, false), (33, 10, false)] [] [0, 1, 10, 11, 12, 13, 14, 16, 33, 34, 35] false [
                        (none, .iadr 37 1 (.v 33) (.v 35)),
                        (none, .load 38 false 1 (.v 37) none),
                        (none, .asg 16 (.v 38) .copy)])
                      (.seq
                       (.region [(41, 0, false), (39, 0, false), (33, 10, false)] [] [0, 1, 10, 11, 12, 13, 14, 33, 34, 35, 45] false [
                         (none, .mv 39 (.v 0)),
                         (none, .mv 40 (.v 16)),
                         (none, .iadr 41 3 (.v 39) (.v 40)),
                         (none, .load 42 true 3 (.v 41) none),
                         (none, .mv 43 (.v 1)),
                         (none, .mv 44 (.v 13)),
                         (none, .call (some 45) 314 false [((.v 42), false), ((.v 43), false), ((.v 44), false)])])
                       (.cond (.v 45)
                        (.region [(33, 10, false)] [] [0, 1, 10, 11, 12, 13, 14, 33, 34, 35] false [
                          (none, .mv 46 (.v 14)),
                          (none, .bin 47 .add (.v 46) (.c (.int .i64 1))),
                          (none, .asg 14 (.v 47) .copy)])
                        (.skip [0, 1, 10, 11, 12, 13, 14, 33, 34, 35])))))
                    (.region [(33, 10, false)] [] [0, 1, 10, 11, 12, 13, 14, 33, 34, 35] false [
                      (none, .bin 48 .add (.v 35) (.c (.int .i64 1))),
                      (none, .mv 35 (.v 48))])))))))
              (.seq
               (.region [] [] [0, 1, 10, 11, 12, 13, 14, 51] false [
                 (none, .mv 49 (.v 14)),
                 (none, .mv 50 (.v 12)),
                 (none, .bin 51 .gtr (.v 49) (.v 50))])
               (.cond (.v 51)
                (.region [] [] [0, 1, 10, 11, 12, 13] false [
                  (none, .mv 52 (.v 13)),
                  (none, .mv 53 (.v 14)),
                  (none, .asg 11 (.v 52) .copy),
                  (none, .asg 12 (.v 53) .copy)])
                (.skip [0, 1, 10, 11, 12, 13]))))))
           (.region [] [] [0, 1, 10, 11, 12, 13] false [
             (none, .mv 31 (.v 13)),
             (none, .bin 32 .add (.v 31) (.c (.int .i64 1))),
             (none, .asg 13 (.v 32) .copy)]))))))
      (.seq
       (.seq
        (.region [] [] [11, 12, 55] false [
          (none, .mv 54 (.v 12)),
          (none, .bin 55 .eql (.v 54) (.c (.int .i64 0)))])
        (.cond (.v 55)
         (.seq
          (.region [] [] [6, 7, 8] false [
            (none, .asg 6 (.c (.int .i64 0)) .copy),
            (none, .asg 7 (.c (.int .i64 0)) .copy),
            (none, .asg 8 (.c (.int .i64 3)) .copy)])
          (.ret [6, 7, 8]))
         (.skip [11, 12])))
       (.seq
        (.region [] [] [6, 7, 8] false [
          (none, .mv 56 (.v 11)),
          (none, .mv 57 (.v 12)),
          (none, .asg 6 (.v 56) .copy),
          (none, .asg 7 (.v 57) .copy),
          (none, .asg 8 (.c (.int .i64 0)) .copy)])
        (.ret [6, 7, 8])))))))⟩
def F89 : PFunc :=
 ⟨[false, false, false], [.tmp 4],
  (.seq
   (.region [] [] [1, 2, 3] false [
     (none, .box 3 (.v 0) .copy),
     (none, .asg 4 (.c (.bool false)) .copy)])
   (.seq
    (.region [(7, 2, true)] [] [4] false [
      (none, .load 5 true 3 (.v 3) none),
      (none, .load 6 false 1 (.v 1) none),
      (none, .load 7 false 1 (.v 2) none),
      (none, .call (some 8) 243 false [((.v 5), false), ((.v 6), false), ((.v 7), false)]),
      (none, .un 9 .not (.v 8)),
      (none, .asg 4 (.v 9) .copy)])
    (.ret [4])))⟩
def F273 : PFunc :=
 ⟨[false], [.tmp 2],
  (.seq
   (.region [] [] [0] false [
     (none, .asg 2 (.c (.sl true 1 [])) .copy)])
   (.seq
    (.region [] [] [0, 3] false [
      (none, .mksl 5 1 (.int .i64 0) 0 []),
      (none, .asg 3 (.v 5) .move)])
    (.seq
     (.seq
      (.region [] [] [0, 3, 4] false [
        (none, .asg 4 (.c (.int .i64 0)) .copy)])
      (.block 0
       (.loop
        (.seq
         (.seq
          (.region [] [] [0, 3, 4, 10] false [
            (none, .mv 6 (.v 0)),
            (none, .mv 7 (.v 4)),
            (none, .conv 8 .u64 (.v 7)),
            (none, .bin 9 .shr (.v 6) (.v 8)),
            (none, .bin 10 .gtr (.v 9) (.c (.int .i64 0)))])
          (.cond (.v 10)
           (.skip [0, 3, 4])
           (.exit 0 [3])))
         (.seq
          (.block 1
           (.seq
            (.region [] [] [0, 3, 4, 18] false [
              (none, .mv 13 (.v 0)),
              (none, .mv 14 (.v 4)),
              (none, .conv 15 .u64 (.v 14)),
              (none, .bin 16 .shr (.v 13) (.v 15)),
              (none, .bin 17 .and (.v 16) (.c (.int .i64 1))),
              (none, .bin 18 .eql (.v 17) (.c (.int .i64 1)))])
            (.cond (.v 18)
             (.region [(19, 3, false)] [] [0, 3, 4] false [
               (none, .mv 19 (.v 3)),
               (none, .mv 20 (.v 4)),
               (none, .mksl 21 1 (.int .i64 0) 1 [(0, (.v 20), .copy)]),
               (none, .app 22 1 (.v 19) (.v 21) .move),
               (none, .asg 3 (.v 22) .move)])
             (.skip [0, 3, 4]))))
          (.region [] [] [0, 3, 4] false [
            (none, .mv 11 (.v 4)),
            (none, .bin 12 .add (.v 11) (.c (.int .i64 1))),
            (none, .asg 4 (.v 12) .copy)]))))))
     (.seq
      (.region [(23, 3, false)] [] [2] false [
        (none, .mv 23 (.v 3)),
        (none, .asg 2 (.v 23) .move)])
      (.ret [2])))))⟩
def F31 : PFunc :=
 ⟨[false], [.tmp 2],
  (.seq
   (.region [] [] [0] false [
     (none, .asg 2 (.c (.bool false)) .copy)])
   (.seq
    (.region [] [] [2] false [
      (none, .mv 3 (.v 0)),
      (none, .mv 4 (.v 0)),
      (none, .bin 5 .neq (.v 3) (.v 4)),
      (none, .asg 2 (.v 5) .copy)])
    (.ret [2])))⟩
def F27 : PFunc :=
 ⟨[false, false], [.tmp 4],
  (.seq
   (.region [] [] [0, 1] false [
     (none, .asg 4 (.c (.int .i64 0)) .copy)])
   (.seq
    (.region [] [] [0, 1, 5] false [
      (none, .mv 7 (.v 0)),
      (none, .call (some 8) 31 false [((.v 7), false)]),
      (none, .asg 5 (.v 8) .copy)])
    (.seq
     (.region [] [] [0, 1, 5, 6] false [
       (none, .mv 9 (.v 1)),
       (none, .call (some 10) 31 false [((.v 9), false)]),
       (none, .asg 6 (.v 10) .copy)])
     (.seq
      (.seq
       (.region [] [] [0, 1, 6, 11] false [
         (none, .mv 11 (.v 5))])
       (.cond (.v 11)
        (.seq
         (.seq
          (.region [] [] [12] false [
            (none, .mv 12 (.v 6))])
          (.cond (.v 12)
           (.seq
            (.region [] [] [4] false [
              (none, .asg 4 (.c (.int .i64 0)) .copy)])
            (.ret [4]))
           (.skip [])))
         (.seq
          (.region [] [] [4] false [
            (none, .asg 4 (.c (.int .i64 (-1))) .copy)])
          (.ret [4])))
        (.skip [0, 1, 6])))
      (.seq
       (.seq
        (.region [] [] [0, 1, 13] false [
          (none, .mv 13 (.v 6))])
        (.cond (.v 13)
         (.seq
          (.region [] [] [4] false [
            (none, .asg 4 (.c (.int .i64 1)) .copy)])
          (.ret [4]))
         (.skip [0, 1])))
       (.seq
        (.seq
         (.region [] [] [0, 1, 16] false [
           (none, .mv 14 (.v 0)),
           (none, .mv 15 (.v 1)),
           (none, .bin 16 .lss (.v 14) (.v 15))])
         (.cond (.v 16)
          (.seq
           (.region [] [] [4] false [
             (none, .asg 4 (.c (.int .i64 (-1))) .copy)])
           (.ret [4]))
          (.skip [0, 1])))
        (.seq
         (.seq
          (.region [] [] [19] false [
            (none, .mv 17 (.v 0)),
            (none, .mv 18 (.v 1)),
            (none, .bin 19 .gtr (.v 17) (.v 18))])
          (.cond (.v 19)
           (.seq
            (.region [] [] [4] false [
              (none, .asg 4 (.c (.int .i64 1)) .copy)])
            (.ret [4]))
           (.skip [])))
         (.seq
          (.region [] [] [4] false [
            (none, .asg 4 (.c (.int .i64 0)) .copy)])
          (.ret [4])))))))))⟩
def F792 : PFunc :=
 ⟨[false, false], [.tmp 4],
  (.seq
   (.region [] [] [0, 1] false [
     (none, .asg 4 (.c (.int .i64 0)) .copy)])
   (.seq
    (.seq
     (.region [(9, 0, false)] [] [0, 1, 9, 10, 11] false [
       (none, .mv 9 (.v 0)),
       (none, .len 10 false (.v 9)),
       (none, .mv 11 (.c (.int .i64 0)))])
     (.block 0
      (.loop
       (.seq
        (.region [(9, 0, false)] [] [0, 1, 9, 10, 11, 12] false [
          (none, .bin 12 .lss (.v 11) (.v 10))])
        (.seq
         (.cond (.v 12)
          (.skip [0, 1, 9, 10, 11])
          (.exit 0 [0, 1]))
         (.seq
          (.block 1
           (.seq
            (.region [(14, 0, false), (9, 0, false)] [] [0, 1, 5, 6, 9, 10, 11] false [
              (none, .mv 13 (.v 11)),
              (none, .iadr 14 1 (.v 9) (.v 11)),
              (none, .load 15 false 1 (.v 14) none),
              (none, .asg 5 (.v 13) .copy),
              (none, .asg 6 (.v 15) .copy)])
            (.seq
             (.seq
              (.region [(17, 1, false), (9, 0, false)] [] [0, 1, 5, 6, 9, 10, 11, 19] false [
                (none, .mv 16 (.v 5)),
                (none, .mv 17 (.v 1)),
                (none, .len 18 false (.v 17)),
                (none, .bin 19 .geq (.v 16) (.v 18))])
              (.cond (.v 19)
               (.seq
                (.region [] [] [4] false [
                  (none, .asg 4 (.c (.int .i64 1)) .copy)])
                (.ret [4]))
               (.skip [0, 1, 5, 6, 9, 10, 11])))
             (.seq
              (.region [(22, 1, false), (20, 1, false), (9, 0, false)] [] [0, 1, 6, 7, 9, 10, 11] false [
                (none, .mv 20 (.v 1)),
                (none, .mv 21 (.v 5)),
                (none, .iadr 22 1 (.v 20) (.v 21)),
                (none, .load 23 false 1 (.v 22) none),
                (none, .asg 7 (.v 23) .copy)])
              (.seq
               (.region [(9, 0, false)] [] [0, 1, 8, 9, 10, 11] false [
                 (none, .mv 24 (.v 6)),
                 (none, .mv 25 (.v 7)),
                 (none, .call (some 26) 27 false [((.v 24), false), ((.v 25), false)]),
                 (none, .asg 8 (.v 26) .copy)])
               (.seq
                (.region [(9, 0, false)] [] [0, 1, 8, 9, 10, 11, 28] false [
                  (none, .mv 27 (.v 8)),
                  (none, .bin 28 .neq (.v 27) (.c (.int .i64 0)))])
                (.cond (.v 28)
                 (.seq
                  (.region [] [] [4] false [
                    (none, .mv 29 (.v 8)),
                    (none, .asg 4 (.v 29) .copy)])
                  (.ret [4]))
                 (.skip [0, 1, 9, 10, 11]))))))))
          (.region [(9, 0, false)] [] [0, 1, 9, 10, 11] false [
            (none, .bin 30 .add (.v 11) (.c (.int .i64 1))),
            (none, .mv 11 (.v 30))])))))))
    (.seq
     (.seq
      (.region [(33, 1, false), (31, 0, false)] [] [35] false [
        (none, .mv 31 (.v 0)),
        (none, .len 32 false (.v 31)),
        (none, .mv 33 (.v 1)),
        (none, .len 34 false (.v 33)),
        (none, .bin 35 .lss (.v 32) (.v 34))])
      (.cond (.v 35)
       (.seq
        (.region [] [] [4] false [
          (none, .asg 4 (.c (.int .i64 (-1))) .copy)])
        (.ret [4]))
       (.skip [])))
     (.seq
      (.region [] [] [4] false [
        (none, .asg 4 (.c (.int .i64 0)) .copy)])
      (.ret [4])))))⟩
def F88 : PFunc :=
 ⟨[false, false, false], [.tmp 6, .tmp 7],
  (.seq
   (.region [] [13] [0, 2, 4] false [
     (none, .box 4 (.v 1) .copy),
     (none, .asg 6 (.c (.sl true 1 [])) .copy),
     (none, .asg 7 (.c (.int .i64 0)) .copy)])
   (.seq
    (.seq
     (.region [(19, 2, false), (16, 0, false)] [4, 13] [0, 2, 4, 8] true [
       (none, .mv 16 (.v 0)),
       (none, .call (some 17) 218 false [((.v 16), false)]),
       (none, .load 18 false 1 (.v 4) none),
       (none, .mv 19 (.v 2)),
       (none, .call (some 20) 270 false [((.v 17), false), ((.v 18), false), ((.c (.int .i64 1)), false), ((.v 19), false)]),
       (none, .asg 8 (.v 20) .copy)])
     (.seq
      (.region [] [4, 13] [0, 2, 4, 8, 22] false [
        (none, .mv 21 (.v 8)),
        (none, .bin 22 .neq (.v 21) (.c (.int .i64 0)))])
      (.cond (.v 22)
       (.seq
        (.region [] [4, 13] [6, 7] false [
          (none, .mv 23 (.v 8)),
          (none, .asg 6 (.c (.sl true 1 [])) .copy),
          (none, .asg 7 (.v 23) .copy)])
        (.ret [6, 7]))
       (.skip [0, 2, 4]))))
    (.seq
     (.region [] [4, 13] [0, 2, 4, 9, 10] false [
       (none, .mksl 24 1 (.int .i64 0) 0 []),
       (none, .asg 9 (.v 24) .move),
       (none, .asg 10 (.c (.bool false)) .copy)])
     (.seq
      (.seq
       (.region [(25, 2, false)] [4, 13] [0, 2, 4, 9, 10, 28, 29] false [
         (none, .mv 25 (.v 2)),
         (none, .len 26 false (.v 25)),
         (none, .conv 27 .u64 (.v 26)),
         (none, .bin 28 .shl (.c (.int .i64 1)) (.v 27)),
         (none, .mv 29 (.c (.int .i64 0)))])
       (.block 0
        (.loop
         (.seq
          (.region [] [4, 13] [0, 2, 4, 9, 10, 28, 29, 30] false [
            (none, .bin 30 .lss (.v 29) (.v 28))])
          (.seq
           (.cond (.v 30)
            (.skip [0, 2, 4, 9, 10, 28, 29])
            (.exit 0 [9, 10]))
           (.seq
            (.block 1
             (.seq
              (.region [] [4, 13] [0, 2, 4, 9, 10, 11, 28, 29] false [
                (none, .mv 31 (.v 29)),
                (none, .asg 11 (.v 31) .copy)])
              (.seq
               (.region [] [4] [0, 2, 4, 9, 10, 12, 13, 28, 29] false [
                 (none, .mv 32 (.v 11)),
                 (none, .call (some 33) 273 false [((.v 32), false)]),
                 (none, .mksl 34 1 (.int .i64 0) 0 []),
                 (none, .new 13 (.sl true 1 [])),
                 (none, .asg 12 (.v 33) .move),
                 (none, .store 1 (.v 13) (.v 34) .move)])
               (.seq
                (.seq
                 (.region [(35, 12, false)] [4, 13] [0, 2, 4, 9, 10, 12, 13, 28, 29, 35, 36, 37] false [
                   (none, .mv 35 (.v 12)),
                   (none, .len 36 false (.v 35)),
                   (none, .mv 37 (.c (.int .i64 0)))])
                 (.block 2
                  (.loop
                   (.seq
                    (.region [(35, 12, false)] [4, 13] [0, 2, 4, 9, 10, 12, 13, 28, 29, 35, 36, 37, 38] false [
                      (none, .bin 38 .lss (.v 37) (.v 36))])
                    (.seq
                     (.cond (.v 38)
                      (.skip [0, 2, 4, 9, 10, 12, 13, 28, 29, 35, 36, 37])
                      (.exit 2 [0, 2, 4, 9, 10, 12, 13, 28, 29]))
                     (.seq
                      (.block 3
                       (.seq
                        (.region [(39, 12, false), (35, 12, false)] [4, 13] [0, 2, 4, 9, 10, 12, 13, 15, 28, 29, 35, 36, 37] false [
                          (none, .iadr 39 1 (.v 35) (.v 37)),
                          (none, .load 40 false 1 (.v 39) none),
                          (none, .asg 15 (.v 40) .copy)])
                        (.region [(44, 2, false), (42, 2, false), (41, 13, true), (35, 12, false)] [4, 13] [0, 2, 4, 9, 10, 12, 13, 28, 29, 35, 36, 37] true [
                          (none, .load 41 false 1 (.v 13) none),
                          (none, .mv 42 (.v 2)),
                          (none, .mv 43 (.v 15)),
                          (none, .iadr 44 1 (.v 42) (.v 43)),
                          (none, .load 45 false 1 (.v 44) none),
                          (none, .mksl 46 1 (.int .i64 0) 1 [(0, (.v 45), .copy)]),
                          (none, .app 47 1 (.v 41) (.v 46) .move),
                          (none, .store 1 (.v 13) (.v 47) .move)])))
                      (.region [(35, 12, false)] [4, 13] [0, 2, 4, 9, 10, 12, 13, 28, 29, 35, 36, 37] false [
                        (none, .bin 48 .add (.v 37) (.c (.int .i64 1))),
                        (none, .mv 37 (.v 48))])))))))
                (.seq
                 (.seq
                  (.region [(49, 0, false)] [4, 13] [0, 2, 4, 9, 10, 12, 28, 29, 51] false [
                    (none, .mv 49 (.v 0)),
                    (none, .mkfn 50 89 [4, 13]),
                    (none, .call (some 51) 802 false [((.v 49), false), ((.v 50), false)])])
                  (.cond (.v 51)
                   (.exit 1 [0, 2, 4, 9, 10, 28, 29])
                   (.skip [0, 2, 4, 9, 10, 12, 28, 29])))
                 (.seq
                  (.region [(69, 9, false), (68, 12, false), (64, 9, false), (62, 12, false), (57, 9, false), (55, 12, false)] [4, 13] [0, 2, 4, 9, 10, 12, 28, 29, 73] false [
                    (none, .mv 52 (.v 10)),
                    (none, .un 53 .not (.v 52)),
                    (none, .mv 54 (.v 53)),
                    (some (54, false), .mv 55 (.v 12)),
                    (some (54, false), .len 56 false (.v 55)),
                    (some (54, false), .mv 57 (.v 9)),
                    (some (54, false), .len 58 false (.v 57)),
                    (some (54, false), .bin 59 .lss (.v 56) (.v 58)),
                    (none, .pick 60 (.v 54) (.c (.bool true)) (.v 59)),
                    (none, .mv 61 (.v 60)),
                    (some (61, false), .mv 62 (.v 12)),
                    (some (61, false), .len 63 false (.v 62)),
                    (some (61, false), .mv 64 (.v 9)),
                    (some (61, false), .len 65 false (.v 64)),
                    (some (61, false), .bin 66 .eql (.v 63) (.v 65)),
                    (some (61, false), .mv 67 (.v 66)),
                    (some (67, true), .mv 68 (.v 12)),
                    (some (67, true), .mv 69 (.v 9)),
                    (some (67, true), .call (some 70) 792 false [((.v 68), false), ((.v 69), false)]),
                    (some (67, true), .bin 71 .lss (.v 70) (.c (.int .i64 0))),
                    (some (61, false), .pick 72 (.v 67) (.v 71) (.c (.bool false))),
                    (none, .pick 73 (.v 61) (.c (.bool true)) (.v 72))])
                  (.cond (.v 73)
                   (.region [(74, 12, false)] [4, 13] [0, 2, 4, 9, 10, 28, 29] false [
                     (none, .mv 74 (.v 12)),
                     (none, .asg 9 (.v 74) .move),
                     (none, .asg 10 (.c (.bool true)) .copy)])
                   (.skip [0, 2, 4, 9, 10, 28, 29]))))))))
            (.region [] [4, 13] [0, 2, 4, 9, 10, 28, 29] false [
              (none, .bin 75 .add (.v 29) (.c (.int .i64 1))),
              (none, .mv 29 (.v 75))])))))))
      (.seq
       (.seq
        (.region [] [4, 13] [9, 77] false [
          (none, .mv 76 (.v 10)),
          (none, .un 77 .not (.v 76))])
        (.cond (.v 77)
         (.seq
          (.region [] [4, 13] [6, 7] false [
            (none, .asg 6 (.c (.sl true 1 [])) .copy),
            (none, .asg 7 (.c (.int .i64 3)) .copy)])
          (.ret [6, 7]))
         (.skip [9])))
       (.seq
        (.region [(78, 9, false)] [4, 13] [6, 7] false [
          (none, .mv 78 (.v 9)),
          (none, .asg 6 (.v 78) .move),
          (none, .asg 7 (.c (.int .i64 0)) .copy)])
        (.ret [6, 7])))))))⟩
def F110 : PFunc :=
 ⟨[false, false, false], [.tmp 6, .tmp 7],
  (.seq
   (.region [] [] [0, 1, 2] false [
     (none, .asg 6 (.c (.sl true 1 [])) .copy),
     (none, .asg 7 (.c (.int .i64 0)) .copy)])
   (.seq
    (.seq
     (.region [(12, 2, false), (9, 0, false)] [] [0, 1, 2, 8] false [
       (none, .mv 9 (.v 0)),
       (none, .call (some 10) 218 false [((.v 9), false)]),
       (none, .mv 11 (.v 1)),
       (none, .mv 12 (.v 2)),
       (none, .call (some 13) 270 false [((.v 10), false), ((.v 11), false), ((.c (.int .i64 1)), false), ((.v 12), false)]),
       (none, .asg 8 (.v 13) .copy)])
     (.seq
      (.region [] [] [0, 1, 2, 8, 15] false [
        (none, .mv 14 (.v 8)),
        (none, .bin 15 .neq (.v 14) (.c (.int .i64 0)))])
      (.cond (.v 15)
       (.seq
        (.region [] [] [6, 7] false [
          (none, .mv 16 (.v 8)),
          (none, .asg 6 (.c (.sl true 1 [])) .copy),
          (none, .asg 7 (.v 16) .copy)])
        (.ret [6, 7]))
       (.skip [0, 1, 2]))))
    (.seq
     (.region [(19, 2, false), (17, 0, false)] [] [6, 7] false [
       (none, .mv 17 (.v 0)),
       (none, .mv 18 (.v 1)),
       (none, .mv 19 (.v 2)),
       (none, .call (some 20) 271 false [((.v 17), false), ((.v 18), false), ((.v 19), false)]),
       (none, .asg 6 (.v 20) .move),
       (none, .asg 7 (.c (.int .i64 0)) .copy)])
     (.ret [6, 7]))))⟩
def F398 : PFunc :=
 ⟨[false], [.tmp 2],
  (.seq
   (.region [] [] [0] false [
     (none, .asg 2 (.c (.bool false)) .copy)])
   (.seq
    (.region [(3, 0, false)] [] [2] false [
      (none, .mv 3 (.v 0)),
      (none, .len 4 false (.v 3)),
      (none, .bin 5 .gtr (.v 4) (.c (.int .i64 4096))),
      (none, .asg 2 (.v 5) .copy)])
    (.ret [2])))⟩
def F399 : PFunc :=
 ⟨[false, false], [.tmp 4],
  (.seq
   (.region [] [] [0, 1] false [
     (none, .asg 4 (.c (.bool false)) .copy)])
   (.seq
    (.seq
     (.region [] [] [0, 1, 5] false [
       (none, .asg 5 (.c (.int .i64 0)) .copy)])
     (.block 0
      (.loop
       (.seq
        (.seq
         (.region [(7, 0, false)] [] [0, 1, 5, 9] false [
           (none, .mv 6 (.v 5)),
           (none, .mv 7 (.v 0)),
           (none, .len 8 false (.v 7)),
           (none, .bin 9 .lss (.v 6) (.v 8))])
         (.cond (.v 9)
          (.skip [0, 1, 5])
          (.exit 0 [])))
        (.seq
         (.block 1
          (.seq
           (.region [(14, 0, false), (12, 0, false)] [] [0, 1, 5, 17] false [
             (none, .mv 12 (.v 0)),
             (none, .mv 13 (.v 5)),
             (none, .iadr 14 1 (.v 12) (.v 13)),
             (none, .load 15 false 1 (.v 14) none),
             (none, .mv 16 (.v 1)),
             (none, .bin 17 .eql (.v 15) (.v 16))])
           (.cond (.v 17)
            (.seq
             (.region [] [] [4] false [
               (none, .asg 4 (.c (.bool true)) .copy)])
             (.ret [4]))
            (.skip [0, 1, 5]))))
         (.region [] [] [0, 1, 5] false [
           (none, .mv 10 (.v 5)),
           (none, .bin 11 .add (.v 10) (.c (.int .i64 1))),
           (none, .asg 5 (.v 11) .copy)]))))))
    (.seq
     (.region [] [] [4] false [
       (none, .asg 4 (.c (.bool false)) .copy)])
     (.ret [4]))))⟩
def F400 : PFunc :=
 ⟨[false, false], [.tmp 4],
  (.seq
   (.region [] [] [0, 1] false [
     (none, .asg 4 (.c (.bool false)) .copy)])
   (.seq
    (.seq
     (.region [(8, 1, false), (6, 0, false)] [] [0, 1, 10] false [
       (none, .mv 6 (.v 0)),
       (none, .len 7 false (.v 6)),
       (none, .mv 8 (.v 1)),
       (none, .len 9 false (.v 8)),
       (none, .bin 10 .neq (.v 7) (.v 9))])
     (.cond (.v 10)
      (.seq
       (.region [] [] [4] false [
         (none, .asg 4 (.c (.bool false)) .copy)])
       (.ret [4]))
      (.skip [0, 1])))
    (.seq
     (.seq
      (.region [] [] [0, 1, 5] false [
        (none, .asg 5 (.c (.int .i64 0)) .copy)])
      (.block 0
       (.loop
        (.seq
         (.seq
          (.region [(12, 0, false)] [] [0, 1, 5, 14] false [
            (none, .mv 11 (.v 5)),
            (none, .mv 12 (.v 0)),
            (none, .len 13 false (.v 12)),
            (none, .bin 14 .lss (.v 11) (.v 13))])
          (.cond (.v 14)
           (.skip [0, 1, 5])
           (.exit 0 [])))
         (.seq
          (.block 1
           (.seq
            (.region [(23, 1, false), (21, 1, false), (19, 0, false), (17, 0, false)] [] [0, 1, 5, 25] true [
              (none, .mv 17 (.v 0)),
              (none, .mv 18 (.v 5)),
              (none, .iadr 19 1 (.v 17) (.v 18)),
              (none, .load 20 false 1 (.v 19) none),
              (none, .mv 21 (.v 1)),
              (none, .mv 22 (.v 5)),
              (none, .iadr 23 1 (.v 21) (.v 22)),
              (none, .load 24 false 1 (.v 23) none),
              (none, .bin 25 .neq (.v 20) (.v 24))])
            (.cond (.v 25)
             (.seq
              (.region [] [] [4] false [
                (none, .asg 4 (.c (.bool false)) .copy)])
              (.ret [4]))
             (.skip [0, 1, 5]))))
          (.region [] [] [0, 1, 5] false [
            (none, .mv 15 (.v 5)),
            (none, .bin 16 .add (.v 15) (.c (.int .i64 1))),
            (none, .asg 5 (.v 16) .copy)]))))))
     (.seq
      (.region [] [] [4] false [
        (none, .asg 4 (.c (.bool true)) .copy)])
      (.ret [4])))))⟩
def F605 : PFunc :=
 ⟨[false, false, false], [.tmp 6],
  (.seq
   (.region [] [] [0, 1, 2] false [
     (none, .asg 6 (.c (.bool false)) .copy)])
   (.seq
    (.region [] [] [6] false [
      (none, .mv 7 (.v 0)),
      (none, .mv 8 (.v 1)),
      (none, .bin 9 .geq (.v 7) (.v 8)),
      (none, .mv 10 (.v 9)),
      (some (10, true), .mv 11 (.v 0)),
      (some (10, true), .mv 12 (.v 2)),
      (some (10, true), .bin 13 .leq (.v 11) (.v 12)),
      (none, .pick 14 (.v 10) (.v 13) (.c (.bool false))),
      (none, .asg 6 (.v 14) .copy)])
    (.ret [6])))⟩
def F681 : PFunc :=
 ⟨[false], [.tmp 2],
  (.seq
   (.region [] [] [0] false [
     (none, .asg 2 (.c (.bool false)) .copy)])
   (.seq
    (.region [(22, 0, false), (21, 0, false), (20, 0, false), (18, 0, false), (17, 0, false), (16, 0, false), (11, 0, false), (10, 0, false), (9, 0, false), (5, 0, false), (4, 0, false), (3, 0, false)] [] [2] true [
      (none, .mv 3 (.v 0)),
      (none, .nchk 4 (.v 3)),
      (none, .fadr 5 0 1 (.v 4)),
      (none, .load 6 false 1 (.v 5) none),
      (none, .call (some 7) 605 false [((.v 6), false), ((.c (.int .i64 1)), false), ((.c (.int .i64 100000)), false)]),
      (none, .mv 8 (.v 7)),
      (some (8, true), .mv 9 (.v 0)),
      (some (8, true), .nchk 10 (.v 9)),
      (some (8, true), .fadr 11 1 1 (.v 10)),
      (some (8, true), .load 12 false 1 (.v 11) none),
      (some (8, true), .call (some 13) 605 false [((.v 12), false), ((.c (.int .i64 1)), false), ((.c (.int .i64 100000)), false)]),
      (none, .pick 14 (.v 8) (.v 13) (.c (.bool false))),
      (none, .mv 15 (.v 14)),
      (some (15, true), .mv 16 (.v 0)),
      (some (15, true), .nchk 17 (.v 16)),
      (some (15, true), .fadr 18 2 1 (.v 17)),
      (some (15, true), .load 19 false 1 (.v 18) none),
      (some (15, true), .mv 20 (.v 0)),
      (some (15, true), .nchk 21 (.v 20)),
      (some (15, true), .fadr 22 1 1 (.v 21)),
      (some (15, true), .load 23 false 1 (.v 22) none),
      (some (15, true), .call (some 24) 605 false [((.v 19), false), ((.v 23), false), ((.c (.int .i64 100000)), false)]),
      (none, .pick 25 (.v 15) (.v 24) (.c (.bool false))),
      (none, .asg 2 (.v 25) .copy)])
    (.ret [2])))⟩
def F680 : PFunc :=
 ⟨[false], [.tmp 2],
  (.seq
   (.region [] [] [0] false [
     (none, .asg 2 (.c (.bool false)) .copy)])
   (.seq
    (.seq
     (.region [] [] [0, 3] false [
       (none, .asg 3 (.c (.int .i64 0)) .copy)])
     (.block 0
      (.loop
       (.seq
        (.seq
         (.region [(5, 0, false)] [] [0, 3, 7] false [
           (none, .mv 4 (.v 3)),
           (none, .mv 5 (.v 0)),
           (none, .len 6 false (.v 5)),
           (none, .bin 7 .lss (.v 4) (.v 6))])
         (.cond (.v 7)
          (.skip [0, 3])
          (.exit 0 [0])))
        (.seq
         (.block 1
          (.seq
           (.region [(12, 0, false), (10, 0, false)] [] [0, 3, 14] false [
             (none, .mv 10 (.v 0)),
             (none, .mv 11 (.v 3)),
             (none, .iadr 12 3 (.v 10) (.v 11)),
             (none, .call (some 13) 681 false [((.v 12), false)]),
             (none, .un 14 .not (.v 13))])
           (.cond (.v 14)
            (.seq
             (.region [] [] [2] false [
               (none, .asg 2 (.c (.bool false)) .copy)])
             (.ret [2]))
            (.skip [0, 3]))))
         (.region [] [] [0, 3] false [
           (none, .mv 8 (.v 3)),
           (none, .bin 9 .add (.v 8) (.c (.int .i64 1))),
           (none, .asg 3 (.v 9) .copy)]))))))
    (.seq
     (.region [(15, 0, false)] [] [2] false [
       (none, .mv 15 (.v 0)),
       (none, .len 16 false (.v 15)),
       (none, .bin 17 .leq (.v 16) (.c (.int .i64 8))),
       (none, .asg 2 (.v 17) .copy)])
     (.ret [2]))))⟩
def F682 : PFunc :=
 ⟨[false], [.tmp 2],
  (.seq
   (.region [] [] [0] false [
     (none, .asg 2 (.c (.bool false)) .copy)])
   (.seq
    (.region [] [] [2] false [
      (none, .mv 3 (.v 0)),
      (none, .call (some 4) 605 false [((.v 3), false), ((.c (.int .i64 1)), false), ((.c (.int .i64 200)), false)]),
      (none, .asg 2 (.v 4) .copy)])
    (.ret [2])))⟩
def F676 : PFunc :=
 ⟨[false], [.tmp 2],
  (.seq
   (.region [] [] [0] false [
     (none, .asg 2 (.c (.bool false)) .copy)])
   (.seq
    (.region [] [] [2] false [
      (none, .mv 3 (.v 0)),
      (none, .call (some 4) 605 false [((.v 3), false), ((.c (.int .i64 1)), false), ((.c (.int .i64 2000)), false)]),
      (none, .asg 2 (.v 4) .copy)])
    (.ret [2])))⟩
def F684 : PFunc :=
 ⟨[false], [.tmp 2],
  (.seq
   (.region [] [] [0] false [
     (none, .asg 2 (.c (.bool false)) .copy)])
   (.seq
    (.seq
     (.region [] [] [0, 3] false [
       (none, .asg 3 (.c (.int .i64 0)) .copy)])
     (.block 0
      (.loop
       (.seq
        (.seq
         (.region [(5, 0, false)] [] [0, 3, 7] false [
           (none, .mv 4 (.v 3)),
           (none, .mv 5 (.v 0)),
           (none, .len 6 false (.v 5)),
           (none, .bin 7 .lss (.v 4) (.v 6))])
         (.cond (.v 7)
          (.skip [0, 3])
          (.exit 0 [0])))
        (.seq
         (.block 1
          (.seq
           (.region [(12, 0, false), (10, 0, false)] [] [0, 3, 15] false [
             (none, .mv 10 (.v 0)),
             (none, .mv 11 (.v 3)),
             (none, .iadr 12 1 (.v 10) (.v 11)),
             (none, .load 13 false 1 (.v 12) none),
             (none, .call (some 14) 676 false [((.v 13), false)]),
             (none, .un 15 .not (.v 14))])
           (.cond (.v 15)
            (.seq
             (.region [] [] [2] false [
               (none, .asg 2 (.c (.bool false)) .copy)])
             (.ret [2]))
            (.skip [0, 3]))))
         (.region [] [] [0, 3] false [
           (none, .mv 8 (.v 3)),
           (none, .bin 9 .add (.v 8) (.c (.int .i64 1))),
           (none, .asg 3 (.v 9) .copy)]))))))
    (.seq
     (.region [(16, 0, false)] [] [2] false [
       (none, .mv 16 (.v 0)),
       (none, .len 17 false (.v 16)),
       (none, .bin 18 .leq (.v 17) (.c (.int .i64 12))),
       (none, .asg 2 (.v 18) .copy)])
     (.ret [2]))))⟩
def F671 : PFunc :=
 ⟨[false, false, false], [.tmp 6],
  (.seq
   (.region [] [] [0, 1, 2] false [
     (none, .asg 6 (.c (.int .i64 0)) .copy)])
   (.seq
    (.seq
     (.region [(7, 0, false)] [] [1, 2, 9] false [
       (none, .mv 7 (.v 0)),
       (none, .call (some 8) 680 false [((.v 7), false)]),
       (none, .un 9 .not (.v 8))])
     (.cond (.v 9)
      (.seq
       (.region [] [] [6] false [
         (none, .asg 6 (.c (.int .i64 1)) .copy)])
       (.ret [6]))
      (.skip [1, 2])))
    (.seq
     (.seq
      (.region [(14, 2, false)] [] [17] false [
        (none, .mv 10 (.v 1)),
        (none, .call (some 11) 682 false [((.v 10), false)]),
        (none, .un 12 .not (.v 11)),
        (none, .mv 13 (.v 12)),
        (some (13, false), .mv 14 (.v 2)),
        (some (13, false), .call (some 15) 684 false [((.v 14), false)]),
        (some (13, false), .un 16 .not (.v 15)),
        (none, .pick 17 (.v 13) (.c (.bool true)) (.v 16))])
      (.cond (.v 17)
       (.seq
        (.region [] [] [6] false [
          (none, .asg 6 (.c (.int .i64 2)) .copy)])
        (.ret [6]))
       (.skip [])))
     (.seq
      (.region [] [] [6] false [
        (none, .asg 6 (.c (.int .i64 0)) .copy)])
      (.ret [6])))))⟩
def F685 : PFunc :=
 ⟨[false, false, false], [.tmp 6],
  (.seq
   (.region [] [] [0, 1, 2] false [
     (none, .asg 6 (.c (.bool false)) .copy)])
   (.seq
    (.region [(11, 0, false), (10, 0, false), (9, 0, false)] [] [0, 2, 7] false [
      (none, .mv 8 (.v 1)),
      (none, .mv 9 (.v 0)),
      (none, .nchk 10 (.v 9)),
      (none, .fadr 11 0 1 (.v 10)),
      (none, .load 12 false 1 (.v 11) none),
      (none, .mv 13 (.v 2)),
      (none, .bin 14 .sub (.v 12) (.v 13)),
      (none, .bin 15 .mul (.v 8) (.v 14)),
      (none, .asg 7 (.v 15) .copy)])
    (.seq
     (.region [(28, 0, false), (27, 0, false), (26, 0, false), (19, 0, false), (18, 0, false), (17, 0, false)] [] [6] false [
       (none, .mv 16 (.v 7)),
       (none, .mv 17 (.v 0)),
       (none, .nchk 18 (.v 17)),
       (none, .fadr 19 1 1 (.v 18)),
       (none, .load 20 false 1 (.v 19) none),
       (none, .mv 21 (.v 2)),
       (none, .bin 22 .mul (.v 20) (.v 21)),
       (none, .bin 23 .geq (.v 16) (.v 22)),
       (none, .mv 24 (.v 23)),
       (some (24, true), .mv 25 (.v 7)),
       (some (24, true), .mv 26 (.v 0)),
       (some (24, true), .nchk 27 (.v 26)),
       (some (24, true), .fadr 28 2 1 (.v 27)),
       (some (24, true), .load 29 false 1 (.v 28) none),
       (some (24, true), .mv 30 (.v 2)),
       (some (24, true), .bin 31 .mul (.v 29) (.v 30)),
       (some (24, true), .bin 32 .leq (.v 25) (.v 31)),
       (none, .pick 33 (.v 24) (.v 32) (.c (.bool false))),
       (none, .asg 6 (.v 33) .copy)])
     (.ret [6]))))⟩
def F677 : PFunc :=
 ⟨[false, false, false, false], [.tmp 8],
  (.seq
   (.region [] [] [0, 1, 2, 3] false [
     (none, .asg 8 (.c (.sl true 1 [])) .copy)])
   (.seq
    (.region [] [] [0, 1, 2, 3, 9] false [
      (none, .mksl 13 1 (.int .i64 0) 0 []),
      (none, .asg 9 (.v 13) .move)])
    (.seq
     (.seq
      (.region [] [] [0, 1, 2, 3, 9, 10] false [
        (none, .asg 10 (.c (.int .i64 0)) .copy)])
      (.block 0
       (.loop
        (.seq
         (.seq
          (.region [(15, 0, false)] [] [0, 1, 2, 3, 9, 10, 17] false [
            (none, .mv 14 (.v 10)),
            (none, .mv 15 (.v 0)),
            (none, .len 16 false (.v 15)),
            (none, .bin 17 .lss (.v 14) (.v 16))])
          (.cond (.v 17)
           (.skip [0, 1, 2, 3, 9, 10])
           (.exit 0 [9])))
         (.seq
          (.block 1
           (.seq
            (.region [] [] [0, 1, 2, 3, 9, 10, 11] false [
              (none, .asg 11 (.c (.bool false)) .copy)])
            (.seq
             (.seq
              (.region [] [] [0, 1, 2, 3, 9, 10, 11, 12] false [
                (none, .asg 12 (.c (.int .i64 0)) .copy)])
              (.block 2
               (.loop
                (.seq
                 (.seq
                  (.region [(21, 2, false)] [] [0, 1, 2, 3, 9, 10, 11, 12, 23] false [
                    (none, .mv 20 (.v 12)),
                    (none, .mv 21 (.v 2)),
                    (none, .len 22 false (.v 21)),
                    (none, .bin 23 .lss (.v 20) (.v 22))])
                  (.cond (.v 23)
                   (.skip [0, 1, 2, 3, 9, 10, 11, 12])
                   (.exit 2 [0, 1, 2, 3, 9, 10, 11])))
                 (.seq
                  (.block 3
                   (.region [(41, 2, false), (39, 2, false), (37, 0, false), (35, 0, false)] [] [0, 1, 2, 3, 9, 10, 11, 12] true [
                     (none, .mv 26 (.v 11)),
                     (none, .mv 27 (.v 26)),
                     (some (27, false), .mv 28 (.v 3)),
                     (some (27, false), .mv 29 (.v 12)),
                     (some (27, false), .conv 30 .u64 (.v 29)),
                     (some (27, false), .bin 31 .shr (.v 28) (.v 30)),
                     (some (27, false), .bin 32 .and (.v 31) (.c (.int .i64 1))),
                     (some (27, false), .bin 33 .eql (.v 32) (.c (.int .i64 1))),
                     (some (27, false), .mv 34 (.v 33)),
                     (some (34, true), .mv 35 (.v 0)),
                     (some (34, true), .mv 36 (.v 10)),
                     (some (34, true), .iadr 37 3 (.v 35) (.v 36)),
                     (some (34, true), .mv 38 (.v 1)),
                     (some (34, true), .mv 39 (.v 2)),
                     (some (34, true), .mv 40 (.v 12)),
                     (some (34, true), .iadr 41 1 (.v 39) (.v 40)),
                     (some (34, true), .load 42 false 1 (.v 41) none),
                     (some (34, true), .call (some 43) 685 false [((.v 37), false), ((.v 38), false), ((.v 42), false)]),
                     (some (27, false), .pick 44 (.v 34) (.v 43) (.c (.bool false))),
                     (none, .pick 45 (.v 27) (.c (.bool true)) (.v 44)),
                     (none, .asg 11 (.v 45) .copy)]))
                  (.region [] [] [0, 1, 2, 3, 9, 10, 11, 12] false [
                    (none, .mv 24 (.v 12)),
                    (none, .bin 25 .add (.v 24) (.c (.int .i64 1))),
                    (none, .asg 12 (.v 25) .copy)]))))))
             (.seq
              (.region [] [] [0, 1, 2, 3, 9, 10, 47] false [
                (none, .mv 46 (.v 11)),
                (none, .un 47 .not (.v 46))])
              (.cond (.v 47)
               (.region [(48, 9, false)] [] [0, 1, 2, 3, 9, 10] false [
                 (none, .mv 48 (.v 9)),
                 (none, .mv 49 (.v 10)),
                 (none, .mksl 50 1 (.int .i64 0) 1 [(0, (.v 49), .copy)]),
                 (none, .app 51 1 (.v 48) (.v 50) .move),
                 (none, .asg 9 (.v 51) .move)])
               (.skip [0, 1, 2, 3, 9, 10]))))))
          (.region [] [] [0, 1, 2, 3, 9, 10] false [
            (none, .mv 18 (.v 10)),
            (none, .bin 19 .add (.v 18) (.c (.int .i64 1))),
            (none, .asg 10 (.v 19) .copy)]))))))
     (.seq
      (.region [(52, 9, false)] [] [8] false [
        (none, .mv 52 (.v 9)),
        (none, .asg 8 (.v 52) .move)])
      (.ret [8])))))⟩
def F439 : PFunc :=
 ⟨[false, false, false], [.tmp 6, .tmp 7, .tmp 8],
  (.seq
   (.region [] [] [0, 1, 2] false [
     (none, .asg 6 (.c (.int .i64 0)) .copy),
     (none, .asg 7 (.c (.int .i64 0)) .copy),
     (none, .asg 8 (.c (.int .i64 0)) .copy)])
   (.seq
    (.region [(18, 2, false), (16, 0, false)] [] [0, 1, 2, 9] false [
      (none, .mv 16 (.v 0)),
      (none, .mv 17 (.v 1)),
      (none, .mv 18 (.v 2)),
      (none, .call (some 19) 671 false [((.v 16), false), ((.v 17), false), ((.v 18), false)]),
      (none, .asg 9 (.v 19) .copy)])
    (.seq
     (.seq
      (.region [] [] [0, 1, 2, 9, 21] false [
        (none, .mv 20 (.v 9)),
        (none, .bin 21 .neq (.v 20) (.c (.int .i64 0)))])
      (.cond (.v 21)
       (.seq
        (.region [] [] [6, 7, 8] false [
          (none, .mv 22 (.v 9)),
          (none, .asg 6 (.c (.int .i64 0)) .copy),
          (none, .asg 7 (.c (.int .i64 0)) .copy),
          (none, .asg 8 (.v 22) .copy)])
        (.ret [6, 7, 8]))
       (.skip [0, 1, 2])))
     (.seq
      (.region [(26, 2, false), (25, 2, false), (23, 0, false)] [] [0, 1, 10] false [
        (none, .mv 23 (.v 0)),
        (none, .mv 24 (.v 1)),
        (none, .mv 25 (.v 2)),
        (none, .mv 26 (.v 2)),
        (none, .len 27 false (.v 26)),
        (none, .conv 28 .u64 (.v 27)),
        (none, .bin 29 .shl (.c (.int .i64 1)) (.v 28)),
        (none, .bin 30 .sub (.v 29) (.c (.int .i64 1))),
        (none, .call (some 31) 677 false [((.v 23), false), ((.v 24), false), ((.v 25), false), ((.v 30), false)]),
        (none, .asg 10 (.v 31) .move)])
      (.seq
       (.region [] [] [0, 1, 10, 11] false [
         (none, .asg 11 (.c (.int .i64 0)) .copy)])
       (.seq
        (.region [] [] [0, 1, 10, 11, 12] false [
          (none, .asg 12 (.c (.int .i64 0)) .copy)])
        (.seq
         (.seq
          (.region [] [] [0, 1, 10, 11, 12, 13] false [
            (none, .asg 13 (.c (.int .i64 1)) .copy)])
          (.block 0
           (.loop
            (.seq
             (.seq
              (.region [] [] [0, 1, 10, 11, 12, 13, 33] false [
                (none, .mv 32 (.v 13)),
                (none, .bin 33 .leq (.v 32) (.c (.int .i64 2000)))])
              (.cond (.v 33)
               (.skip [0, 1, 10, 11, 12, 13])
               (.exit 0 [11, 12])))
             (.seq
              (.block 1
               (.seq
                (.region [] [] [0, 1, 10, 11, 12, 13, 14] false [
                  (none, .asg 14 (.c (.int .i64 0)) .copy)])
                (.seq
                 (.seq
                  (.region [] [] [0, 1, 10, 11, 12, 13, 14, 15] false [
                    (none, .asg 15 (.c (.int .i64 0)) .copy)])
                  (.block 2
                   (.loop
                    (.seq
                     (.seq
                      (.region [(37, 10, false)] [] [0, 1, 10, 11, 12, 13, 14, 15, 39] false [
                        (none, .mv 36 (.v 15)),
                        (none, .mv 37 (.v 10)),
                        (none, .len 38 false (.v 37)),
                        (none, .bin 39 .lss (.v 36) (.v 38))])
                      (.cond (.v 39)
                       (.skip [0, 1, 10, 11, 12, 13, 14, 15])
                       (.exit 2 [0, 1, 10, 11, 12, 13, 14])))
                     (.seq
                      (.block 3
                       (.seq
                        (.region [(47, 0, false), (45, 10, false), (43, 10, false), (42, 0, false)] [] [0, 1, 10, 11, 12, 13, 14, 15, 50] false [
                          (none, .mv 42 (.v 0)),
                          (none, .mv 43 (.v 10)),
                          (none, .mv 44 (.v 15)),
                          (none, .iadr 45 1 (.v 43) (.v 44)),
                          (none, .load 46 false 1 (.v 45) none),
                          (none, .iadr 47 3 (.v 42) (.v 46)),
                          (none, .mv 48 (.v 1)),
                          (none, .mv 49 (.v 13)),
                          (none, .call (some 50) 685 false [((.v 47), false), ((.v 48), false), ((.v 49), false)])])
                        (.cond (.v 50)
                         (.region [] [] [0, 1, 10, 11, 12, 13, 14, 15] false [
                           (none, .mv 51 (.v 14)),
                           (none, .bin 52 .add (.v 51) (.c (.int .i64 1))),
                           (none, .asg 14 (.v 52) .copy)])
                         (.skip [0, 1, 10, 11, 12, 13, 14, 15]))))
                      (.region [] [] [0, 1, 10, 11, 12, 13, 14, 15] false [
                        (none, .mv 40 (.v 15)),
                        (none, .bin 41 .add (.v 40) (.c (.int .i64 1))),
                        (none, .asg 15 (.v 41) .copy)]))))))
                 (.seq
                  (.region [] [] [0, 1, 10, 11, 12, 13, 14, 55] false [
                    (none, .mv 53 (.v 14)),
                    (none, .mv 54 (.v 12)),
                    (none, .bin 55 .gtr (.v 53) (.v 54))])
                  (.cond (.v 55)
                   (.seq
                    (.region [] [] [0, 1, 10, 11, 13, 14] false [
                      (none, .mv 56 (.v 13)),
                      (none, .asg 11 (.v 56) .copy)])
                    (.region [] [] [0, 1, 10, 11, 12, 13] false [
                      (none, .mv 57 (.v 14)),
                      (none, .asg 12 (.v 57) .copy)]))
                   (.skip [0, 1, 10, 11, 12, 13]))))))
              (.region [] [] [0, 1, 10, 11, 12, 13] false [
                (none, .mv 34 (.v 13)),
                (none, .bin 35 .add (.v 34) (.c (.int .i64 1))),
                (none, .asg 13 (.v 35) .copy)]))))))
         (.seq
          (.seq
           (.region [] [] [11, 12, 59] false [
             (none, .mv 58 (.v 12)),
             (none, .bin 59 .eql (.v 58) (.c (.int .i64 0)))])
           (.cond (.v 59)
            (.seq
             (.region [] [] [6, 7, 8] false [
               (none, .asg 6 (.c (.int .i64 0)) .copy),
               (none, .asg 7 (.c (.int .i64 0)) .copy),
               (none, .asg 8 (.c (.int .i64 3)) .copy)])
             (.ret [6, 7, 8]))
            (.skip [11, 12])))
          (.seq
           (.region [] [] [6, 7, 8] false [
             (none, .mv 60 (.v 11)),
             (none, .mv 61 (.v 12)),
             (none, .asg 6 (.v 60) .copy),
             (none, .asg 7 (.v 61) .copy),
             (none, .asg 8 (.c (.int .i64 0)) .copy)])
           (.ret [6, 7, 8]))))))))))⟩
def F603 : PFunc :=
 ⟨[false], [.tmp 2],
  (.seq
   (.region [] [] [0] false [
     (none, .asg 2 (.c .nilp) .copy)])
   (.seq
    (.region [(3, 0, false)] [] [2] false [
      (none, .mv 3 (.v 0)),
      (none, .build 4 [(.sl false 1 []), (.int .i64 0), (.int .u64 0)] [(0, 1, (.v 3), .move)]),
      (none, .box 5 (.v 4) .move),
      (none, .asg 2 (.v 5) .move)])
    (.ret [2])))⟩
def F5 : PFunc :=
 ⟨[true], [.tmp 2],
  (.seq
   (.region [] [] [0] false [
     (none, .asg 2 (.c (.int .i64 0)) .copy)])
   (.seq
    (.region [] [] [0, 3] false [
      (none, .asg 3 (.c (.int .i64 0)) .copy)])
    (.seq
     (.seq
      (.region [(11, 0, true), (10, 0, false), (9, 0, false), (8, 0, false), (6, 0, false), (5, 0, false), (4, 0, false)] [] [0, 3, 13] true [
        (none, .mvr 4 0),
        (none, .nchk 5 (.v 4)),
        (none, .fadr 6 1 1 (.v 5)),
        (none, .load 7 false 1 (.v 6) none),
        (none, .mvr 8 0),
        (none, .nchk 9 (.v 8)),
        (none, .fadr 10 0 1 (.v 9)),
        (none, .load 11 false 1 (.v 10) none),
        (none, .len 12 false (.v 11)),
        (none, .bin 13 .lss (.v 7) (.v 12))])
      (.cond (.v 13)
       (.region [(22, 0, true), (20, 0, false), (19, 0, false), (18, 0, false), (17, 0, true), (16, 0, false), (15, 0, false), (14, 0, false)] [] [0, 3] true [
         (none, .mvr 14 0),
         (none, .nchk 15 (.v 14)),
         (none, .fadr 16 0 1 (.v 15)),
         (none, .load 17 false 1 (.v 16) none),
         (none, .mvr 18 0),
         (none, .nchk 19 (.v 18)),
         (none, .fadr 20 1 1 (.v 19)),
         (none, .load 21 false 1 (.v 20) none),
         (none, .iadr 22 1 (.v 17) (.v 21)),
         (none, .load 23 false 1 (.v 22) none),
         (none, .conv 24 .i64 (.v 23)),
         (none, .asg 3 (.v 24) .copy)])
       (.skip [0, 3])))
     (.seq
      (.region [(31, 0, false), (30, 0, false), (27, 0, false), (26, 0, false), (25, 0, false)] [] [0, 3] false [
        (none, .mv 25 (.v 0)),
        (none, .nchk 26 (.v 25)),
        (none, .fadr 27 1 1 (.v 26)),
        (none, .load 28 false 1 (.v 27) none),
        (none, .bin 29 .add (.v 28) (.c (.int .i64 1))),
        (none, .nchk 30 (.v 25)),
        (none, .fadr 31 1 1 (.v 30)),
        (none, .store 1 (.v 31) (.v 29) .copy)])
      (.seq
       (.region [(43, 0, false), (42, 0, false), (35, 0, false), (34, 0, false), (33, 0, false), (32, 0, false)] [] [0, 3] false [
         (none, .mv 32 (.v 0)),
         (none, .mv 33 (.v 0)),
         (none, .nchk 34 (.v 33)),
         (none, .fadr 35 2 1 (.v 34)),
         (none, .load 36 false 1 (.v 35) none),
         (none, .bin 37 .mul (.v 36) (.c (.int .u64 6364136223846793005))),
         (none, .mv 38 (.v 3)),
         (none, .conv 39 .u64 (.v 38)),
         (none, .bin 40 .add (.v 37) (.v 39)),
         (none, .bin 41 .add (.v 40) (.c (.int .u64 1442695040888963407))),
         (none, .nchk 42 (.v 32)),
         (none, .fadr 43 2 1 (.v 42)),
         (none, .store 1 (.v 43) (.v 41) .copy)])
       (.seq
        (.seq
         (.region [(51, 0, true), (50, 0, false), (49, 0, false), (48, 0, false), (46, 0, false), (45, 0, false), (44, 0, false)] [] [0, 3, 53] true [
           (none, .mvr 44 0),
           (none, .nchk 45 (.v 44)),
           (none, .fadr 46 1 1 (.v 45)),
           (none, .load 47 false 1 (.v 46) none),
           (none, .mvr 48 0),
           (none, .nchk 49 (.v 48)),
           (none, .fadr 50 0 1 (.v 49)),
           (none, .load 51 false 1 (.v 50) none),
           (none, .len 52 false (.v 51)),
           (none, .bin 53 .leq (.v 47) (.v 52))])
         (.cond (.v 53)
          (.seq
           (.region [] [] [0, 2] false [
             (none, .mv 54 (.v 3)),
             (none, .asg 2 (.v 54) .copy)])
           (.ret [0, 2]))
          (.skip [0])))
        (.seq
         (.region [(57, 0, false), (56, 0, false), (55, 0, false)] [] [0, 2] false [
           (none, .mv 55 (.v 0)),
           (none, .nchk 56 (.v 55)),
           (none, .fadr 57 2 1 (.v 56)),
           (none, .load 58 false 1 (.v 57) none),
           (none, .bin 59 .shr (.v 58) (.c (.int .u64 40))),
           (none, .bin 60 .and (.v 59) (.c (.int .u64 255))),
           (none, .conv 61 .i64 (.v 60)),
           (none, .asg 2 (.v 61) .copy)])
         (.ret [0, 2]))))))))⟩
def F7 : PFunc :=
 ⟨[true, false], [.tmp 4],
  (.seq
   (.region [] [] [0, 1] false [
     (none, .asg 4 (.c (.int .i64 0)) .copy)])
   (.seq
    (.seq
     (.region [] [] [0, 1, 7] false [
       (none, .mv 6 (.v 1)),
       (none, .bin 7 .leq (.v 6) (.c (.int .i64 1)))])
     (.cond (.v 7)
      (.seq
       (.region [] [] [0, 4] false [
         (none, .asg 4 (.c (.int .i64 0)) .copy)])
       (.ret [0, 4]))
      (.skip [0, 1])))
    (.seq
     (.region [(8, 0, false)] [] [0, 1, 5] false [
       (none, .mv 8 (.v 0)),
       (none, .call (some 9) 5 true [((.v 8), true)]),
       (none, .asg 5 (.v 9) .copy)])
     (.seq
      (.seq
       (.region [] [] [0, 1, 5, 11] false [
         (none, .mv 10 (.v 1)),
         (none, .bin 11 .gtr (.v 10) (.c (.int .i64 200)))])
       (.cond (.v 11)
        (.region [(14, 0, false)] [] [0, 1, 5] false [
          (none, .mv 12 (.v 5)),
          (none, .bin 13 .mul (.v 12) (.c (.int .i64 256))),
          (none, .mv 14 (.v 0)),
          (none, .call (some 15) 5 true [((.v 14), true)]),
          (none, .bin 16 .add (.v 13) (.v 15)),
          (none, .asg 5 (.v 16) .copy)])
        (.skip [0, 1, 5])))
      (.seq
       (.region [] [] [0, 4] false [
         (none, .mv 17 (.v 5)),
         (none, .mv 18 (.v 1)),
         (none, .bin 19 .rem (.v 17) (.v 18)),
         (none, .asg 4 (.v 19) .copy)])
       (.ret [0, 4]))))))⟩
def F6 : PFunc :=
 ⟨[true, false], [.tmp 4],
  (.seq
   (.region [] [] [0, 1] false [
     (none, .asg 4 (.c (.bool false)) .copy)])
   (.seq
    (.region [(5, 0, false)] [] [0, 4] false [
      (none, .mv 5 (.v 0)),
      (none, .mv 6 (.v 1)),
      (none, .call (some 7) 7 true [((.v 5), true), ((.v 6), false)]),
      (none, .bin 8 .eql (.v 7) (.c (.int .i64 0))),
      (none, .asg 4 (.v 8) .copy)])
    (.ret [0, 4])))⟩
def F679 : PFunc :=
 ⟨[true], [.cell 2 true 3],
  (.seq
   (.region [] [] [0, 2] false [
     (none, .new 2 (.agg [(.int .i64 0), (.int .i64 0), (.int .i64 0)]))])
   (.seq
    (.region [(8, 0, false), (4, 0, false)] [] [0, 2, 3] false [
      (none, .mv 4 (.v 0)),
      (none, .call (some 5) 7 true [((.v 4), true), ((.c (.int .i64 20)), false)]),
      (none, .bin 6 .mul (.c (.int .i64 500)) (.v 5)),
      (none, .bin 7 .add (.c (.int .i64 3000)) (.v 6)),
      (none, .mv 8 (.v 0)),
      (none, .call (some 9) 7 true [((.v 8), true), ((.c (.int .i64 20)), false)]),
      (none, .bin 10 .mul (.c (.int .i64 100)) (.v 9)),
      (none, .bin 11 .add (.c (.int .i64 800)) (.v 10)),
      (none, .build 12 [(.int .i64 0), (.int .i64 0), (.int .i64 0)] [(0, 1, (.v 7), .copy), (1, 1, (.v 11), .copy)]),
      (none, .new 3 (.agg [(.int .i64 0), (.int .i64 0), (.int .i64 0)])),
      (none, .store 3 (.v 3) (.v 12) .copy)])
    (.seq
     (.region [(19, 3, false), (15, 0, false), (13, 3, false)] [] [0, 2, 3] true [
       (none, .fadr 13 1 1 (.v 3)),
       (none, .load 14 false 1 (.v 13) none),
       (none, .mvr 15 0),
       (none, .call (some 16) 7 true [((.v 15), true), ((.c (.int .i64 20)), false)]),
       (none, .bin 17 .mul (.c (.int .i64 100)) (.v 16)),
       (none, .bin 18 .add (.v 14) (.v 17)),
       (none, .fadr 19 2 1 (.v 3)),
       (none, .store 1 (.v 19) (.v 18) .copy)])
     (.seq
      (.region [] [] [0, 2] false [
        (none, .load 20 true 3 (.v 3) none),
        (none, .store 3 (.v 2) (.v 20) .copy)])
      (.ret [0, 2])))))⟩
def F4 : PFunc :=
 ⟨[true, false], [.tmp 4],
  (.seq
   (.region [] [] [0, 1] false [
     (none, .asg 4 (.c (.int .i64 0)) .copy)])
   (.seq
    (.region [(10, 1, false), (7, 1, false), (6, 0, false), (5, 1, false)] [] [0, 4] false [
      (none, .mv 5 (.v 1)),
      (none, .mv 6 (.v 0)),
      (none, .mv 7 (.v 1)),
      (none, .len 8 false (.v 7)),
      (none, .call (some 9) 7 true [((.v 6), true), ((.v 8), false)]),
      (none, .iadr 10 1 (.v 5) (.v 9)),
      (none, .load 11 false 1 (.v 10) none),
      (none, .asg 4 (.v 11) .copy)])
    (.ret [0, 4])))⟩
def F683 : PFunc :=
 ⟨[true, true], [],
  (.seq
   (.region [(4, 0, false)] [] [0, 1, 5] false [
     (none, .mv 4 (.v 0)),
     (none, .call (some 5) 7 true [((.v 4), true), ((.c (.int .i64 3)), false)])])
   (.block 0
    (.seq
     (.region [] [] [0, 1, 5, 6] false [
       (none, .bin 7 .eql (.v 5) (.c (.int .i64 0))),
       (none, .asg 6 (.v 7) .copy)])
     (.cond (.v 6)
      (.region [(13, 1, false), (12, 1, false), (9, 0, false), (8, 1, false)] [] [0, 1] false [
        (none, .mv 8 (.v 1)),
        (none, .mv 9 (.v 0)),
        (none, .mksl 10 1 (.int .i64 0) 6 [(0, (.c (.int .i64 (-1))), .copy), (1, (.c (.int .i64 0)), .copy), (2, (.c (.int .i64 1)), .copy), (3, (.c (.int .i64 100000)), .copy), (4, (.c (.int .i64 100001)), .copy), (5, (.c (.int .i64 (-9223372036854775808))), .copy)]),
        (none, .call (some 11) 4 true [((.v 9), true), ((.v 10), false)]),
        (none, .nchk 12 (.v 8)),
        (none, .fadr 13 0 1 (.v 12)),
        (none, .store 1 (.v 13) (.v 11) .copy)])
      (.seq
       (.region [] [] [0, 1, 5, 14] false [
         (none, .bin 15 .eql (.v 5) (.c (.int .i64 1))),
         (none, .asg 14 (.v 15) .copy)])
       (.cond (.v 14)
        (.region [(30, 1, false), (29, 1, false), (24, 1, false), (23, 1, false), (22, 1, false), (20, 1, false), (19, 1, false), (18, 1, false), (17, 0, false), (16, 1, false)] [] [0, 1] true [
          (none, .mvr 16 1),
          (none, .mvr 17 0),
          (none, .mvr 18 1),
          (none, .nchk 19 (.v 18)),
          (none, .fadr 20 2 1 (.v 19)),
          (none, .load 21 false 1 (.v 20) none),
          (none, .mvr 22 1),
          (none, .nchk 23 (.v 22)),
          (none, .fadr 24 2 1 (.v 23)),
          (none, .load 25 false 1 (.v 24) none),
          (none, .bin 26 .add (.v 25) (.c (.int .i64 1))),
          (none, .mksl 27 1 (.int .i64 0) 5 [(0, (.c (.int .i64 (-1))), .copy), (1, (.c (.int .i64 0)), .copy), (2, (.c (.int .i64 1)), .copy), (3, (.v 21), .copy), (4, (.v 26), .copy)]),
          (none, .call (some 28) 4 true [((.v 17), true), ((.v 27), false)]),
          (none, .nchk 29 (.v 16)),
          (none, .fadr 30 1 1 (.v 29)),
          (none, .store 1 (.v 30) (.v 28) .copy)])
        (.seq
         (.region [] [] [0, 1, 31] false [
           (none, .bin 32 .eql (.v 5) (.c (.int .i64 2))),
           (none, .asg 31 (.v 32) .copy)])
         (.cond (.v 31)
          (.region [(42, 1, false), (41, 1, false), (37, 1, false), (36, 1, false), (35, 1, false), (34, 0, false), (33, 1, false)] [] [0, 1] false [
            (none, .mv 33 (.v 1)),
            (none, .mv 34 (.v 0)),
            (none, .mv 35 (.v 1)),
            (none, .nchk 36 (.v 35)),
            (none, .fadr 37 1 1 (.v 36)),
            (none, .load 38 false 1 (.v 37) none),
            (none, .mksl 39 1 (.int .i64 0) 5 [(0, (.c (.int .i64 (-1))), .copy), (1, (.c (.int .i64 0)), .copy), (2, (.v 38), .copy), (3, (.c (.int .i64 100000)), .copy), (4, (.c (.int .i64 100001)), .copy)]),
            (none, .call (some 40) 4 true [((.v 34), true), ((.v 39), false)]),
            (none, .nchk 41 (.v 33)),
            (none, .fadr 42 2 1 (.v 41)),
            (none, .store 1 (.v 42) (.v 40) .copy)])
          (.skip [0, 1])))))))))⟩
def F672 : PFunc :=
 ⟨[true], [.tmp 2],
  (.seq
   (.region [] [] [0] false [
     (none, .asg 2 (.c (.sl true 3 [])) .copy)])
   (.seq
    (.region [] [] [0, 3] false [
      (none, .mksl 6 3 (.agg [(.int .i64 0), (.int .i64 0), (.int .i64 0)]) 0 []),
      (none, .asg 3 (.v 6) .move)])
    (.seq
     (.region [(7, 0, false)] [] [0, 3, 4] false [
       (none, .mv 7 (.v 0)),
       (none, .call (some 8) 7 true [((.v 7), true), ((.c (.int .i64 6)), false)]),
       (none, .asg 4 (.v 8) .copy)])
     (.seq
      (.seq
       (.region [(9, 0, false)] [] [0, 3, 4, 10] false [
         (none, .mv 9 (.v 0)),
         (none, .call (some 10) 6 true [((.v 9), true), ((.c (.int .i64 20)), false)])])
       (.cond (.v 10)
        (.region [(11, 0, false)] [] [0, 3, 4] false [
          (none, .mv 11 (.v 0)),
          (none, .call (some 12) 7 true [((.v 11), true), ((.c (.int .i64 2)), false)]),
          (none, .bin 13 .add (.c (.int .i64 8)) (.v 12)),
          (none, .asg 4 (.v 13) .copy)])
        (.skip [0, 3, 4])))
      (.seq
       (.seq
        (.region [] [] [0, 3, 4, 5] false [
          (none, .mv 14 (.v 4)),
          (none, .asg 5 (.v 14) .copy)])
        (.block 0
         (.loop
          (.seq
           (.seq
            (.region [] [] [0, 3, 4, 5, 16] false [
              (none, .mv 15 (.v 5)),
              (none, .bin 16 .gtr (.v 15) (.c (.int .i64 0)))])
            (.cond (.v 16)
             (.skip [0, 3, 4, 5])
             (.exit 0 [0, 3, 4])))
           (.seq
            (.block 1
             (.region [(20, 0, false), (19, 3, false)] [] [0, 3, 4, 5] false [
               (none, .mv 19 (.v 3)),
               (none, .mv 20 (.v 0)),
               (none, .call (some 21) 679 true [((.v 20), true)]),
               (none, .mksl 22 3 (.agg [(.int .i64 0), (.int .i64 0), (.int .i64 0)]) 1 [(0, (.v 21), .copy)]),
               (none, .app 23 3 (.v 19) (.v 22) .move),
               (none, .asg 3 (.v 23) .move)]))
            (.region [] [] [0, 3, 4, 5] false [
              (none, .mv 17 (.v 5)),
              (none, .bin 18 .sub (.v 17) (.c (.int .i64 1))),
              (none, .asg 5 (.v 18) .copy)]))))))
       (.seq
        (.seq
         (.region [(27, 0, false)] [] [0, 3, 29] false [
           (none, .mv 24 (.v 4)),
           (none, .bin 25 .gtr (.v 24) (.c (.int .i64 0))),
           (none, .mv 26 (.v 25)),
           (some (26, true), .mv 27 (.v 0)),
           (some (26, true), .call (some 28) 6 true [((.v 27), true), ((.c (.int .i64 10)), false)]),
           (none, .pick 29 (.v 26) (.v 28) (.c (.bool false)))])
         (.cond (.v 29)
          (.region [(32, 3, false), (31, 3, false), (30, 0, false)] [] [0, 3] false [
            (none, .mv 30 (.v 0)),
            (none, .mv 31 (.v 3)),
            (none, .iadr 32 3 (.v 31) (.c (.int .i64 0))),
            (none, .calle (some 33) 683 30 32)])
          (.skip [0, 3])))
        (.seq
         (.region [(34, 3, false)] [] [0, 2] false [
           (none, .mv 34 (.v 3)),
           (none, .asg 2 (.v 34) .move)])
         (.ret [0, 2]))))))))⟩
def F674 : PFunc :=
 ⟨[true], [.tmp 2],
  (.seq
   (.region [] [] [0] false [
     (none, .asg 2 (.c (.int .i64 0)) .copy)])
   (.seq
    (.seq
     (.region [(3, 0, false)] [] [0, 4] false [
       (none, .mv 3 (.v 0)),
       (none, .call (some 4) 6 true [((.v 3), true), ((.c (.int .i64 10)), false)])])
     (.cond (.v 4)
      (.seq
       (.region [(5, 0, false)] [] [0, 2] false [
         (none, .mv 5 (.v 0)),
         (none, .mksl 6 1 (.int .i64 0) 5 [(0, (.c (.int .i64 (-1))), .copy), (1, (.c (.int .i64 0)), .copy), (2, (.c (.int .i64 1)), .copy), (3, (.c (.int .i64 200)), .copy), (4, (.c (.int .i64 201)), .copy)]),
         (none, .call (some 7) 4 true [((.v 5), true), ((.v 6), false)]),
         (none, .asg 2 (.v 7) .copy)])
       (.ret [0, 2]))
      (.skip [0])))
    (.seq
     (.region [(8, 0, false)] [] [0, 2] false [
       (none, .mv 8 (.v 0)),
       (none, .mksl 9 1 (.int .i64 0) 3 [(0, (.c (.int .i64 75)), .copy), (1, (.c (.int .i64 80)), .copy), (2, (.c (.int .i64 100)), .copy)]),
       (none, .call (some 10) 4 true [((.v 8), true), ((.v 9), false)]),
       (none, .asg 2 (.v 10) .copy)])
     (.ret [0, 2]))))⟩
def F673 : PFunc :=
 ⟨[true], [.tmp 2],
  (.seq
   (.region [] [] [0] false [
     (none, .asg 2 (.c (.int .i64 0)) .copy)])
   (.seq
    (.seq
     (.region [(3, 0, false)] [] [0, 4] false [
       (none, .mv 3 (.v 0)),
       (none, .call (some 4) 6 true [((.v 3), true), ((.c (.int .i64 10)), false)])])
     (.cond (.v 4)
      (.seq
       (.region [(5, 0, false)] [] [0, 2] false [
         (none, .mv 5 (.v 0)),
         (none, .mksl 6 1 (.int .i64 0) 5 [(0, (.c (.int .i64 (-1))), .copy), (1, (.c (.int .i64 0)), .copy), (2, (.c (.int .i64 1)), .copy), (3, (.c (.int .i64 2000)), .copy), (4, (.c (.int .i64 2001)), .copy)]),
         (none, .call (some 7) 4 true [((.v 5), true), ((.v 6), false)]),
         (none, .asg 2 (.v 7) .copy)])
       (.ret [0, 2]))
      (.skip [0])))
    (.seq
     (.region [(8, 0, false)] [] [0, 2] false [
       (none, .mv 8 (.v 0)),
       (none, .call (some 9) 7 true [((.v 8), true), ((.c (.int .i64 20)), false)]),
       (none, .bin 10 .mul (.c (.int .i64 25)) (.v 9)),
       (none, .bin 11 .add (.c (.int .i64 100)) (.v 10)),
       (none, .asg 2 (.v 11) .copy)])
     (.ret [0, 2]))))⟩
def F675 : PFunc :=
 ⟨[true], [.tmp 2],
  (.seq
   (.region [] [] [0] false [
     (none, .asg 2 (.c (.sl true 1 [])) .copy)])
   (.seq
    (.region [] [] [0, 3] false [
      (none, .mksl 6 1 (.int .i64 0) 0 []),
      (none, .asg 3 (.v 6) .move)])
    (.seq
     (.region [(7, 0, false)] [] [0, 3, 4] false [
       (none, .mv 7 (.v 0)),
       (none, .call (some 8) 7 true [((.v 7), true), ((.c (.int .i64 7)), false)]),
       (none, .asg 4 (.v 8) .copy)])
     (.seq
      (.seq
       (.region [(9, 0, false)] [] [0, 3, 4, 10] false [
         (none, .mv 9 (.v 0)),
         (none, .call (some 10) 6 true [((.v 9), true), ((.c (.int .i64 20)), false)])])
       (.cond (.v 10)
        (.region [(11, 0, false)] [] [0, 3, 4] false [
          (none, .mv 11 (.v 0)),
          (none, .call (some 12) 7 true [((.v 11), true), ((.c (.int .i64 2)), false)]),
          (none, .bin 13 .add (.c (.int .i64 12)) (.v 12)),
          (none, .asg 4 (.v 13) .copy)])
        (.skip [0, 3, 4])))
      (.seq
       (.seq
        (.region [] [] [0, 3, 4, 5] false [
          (none, .mv 14 (.v 4)),
          (none, .asg 5 (.v 14) .copy)])
        (.block 0
         (.loop
          (.seq
           (.seq
            (.region [] [] [0, 3, 4, 5, 16] false [
              (none, .mv 15 (.v 5)),
              (none, .bin 16 .gtr (.v 15) (.c (.int .i64 0)))])
            (.cond (.v 16)
             (.skip [0, 3, 4, 5])
             (.exit 0 [0, 3, 4])))
           (.seq
            (.block 1
             (.region [(20, 0, false), (19, 3, false)] [] [0, 3, 4, 5] false [
               (none, .mv 19 (.v 3)),
               (none, .mv 20 (.v 0)),
               (none, .call (some 21) 7 true [((.v 20), true), ((.c (.int .i64 20)), false)]),
               (none, .bin 22 .mul (.c (.int .i64 25)) (.v 21)),
               (none, .bin 23 .add (.c (.int .i64 100)) (.v 22)),
               (none, .mksl 24 1 (.int .i64 0) 1 [(0, (.v 23), .copy)]),
               (none, .app 25 1 (.v 19) (.v 24) .move),
               (none, .asg 3 (.v 25) .move)]))
            (.region [] [] [0, 3, 4, 5] false [
              (none, .mv 17 (.v 5)),
              (none, .bin 18 .sub (.v 17) (.c (.int .i64 1))),
              (none, .asg 5 (.v 18) .copy)]))))))
       (.seq
        (.seq
         (.region [(29, 0, false)] [] [0, 3, 31] false [
           (none, .mv 26 (.v 4)),
           (none, .bin 27 .gtr (.v 26) (.c (.int .i64 0))),
           (none, .mv 28 (.v 27)),
           (some (28, true), .mv 29 (.v 0)),
           (some (28, true), .call (some 30) 6 true [((.v 29), true), ((.c (.int .i64 10)), false)]),
           (none, .pick 31 (.v 28) (.v 30) (.c (.bool false)))])
         (.cond (.v 31)
          (.region [(35, 3, false), (33, 0, false), (32, 3, false)] [] [0, 3] false [
            (none, .mv 32 (.v 3)),
            (none, .mv 33 (.v 0)),
            (none, .call (some 34) 673 true [((.v 33), true)]),
            (none, .iadr 35 1 (.v 32) (.c (.int .i64 0))),
            (none, .store 1 (.v 35) (.v 34) .copy)])
          (.skip [0, 3])))
        (.seq
         (.region [(36, 3, false)] [] [0, 2] false [
           (none, .mv 36 (.v 3)),
           (none, .asg 2 (.v 36) .move)])
         (.ret [0, 2]))))))))⟩
def F669 : PFunc :=
 ⟨[false], [.tmp 2, .tmp 3, .tmp 4],
  (.seq
   (.region [] [] [0] false [
     (none, .asg 2 (.c (.sl true 3 [])) .copy),
     (none, .asg 3 (.c (.int .i64 0)) .copy),
     (none, .asg 4 (.c (.sl true 1 [])) .copy)])
   (.seq
    (.region [(8, 0, false)] [] [5] false [
      (none, .mv 8 (.v 0)),
      (none, .call (some 9) 603 true [((.v 8), false)]),
      (none, .asg 5 (.v 9) .move)])
    (.seq
     (.region [(10, 5, false)] [] [5, 6] false [
       (none, .mv 10 (.v 5)),
       (none, .call (some 11) 672 true [((.v 10), true)]),
       (none, .asg 6 (.v 11) .move)])
     (.seq
      (.region [(12, 5, false)] [] [5, 6, 7] false [
        (none, .mv 12 (.v 5)),
        (none, .call (some 13) 674 true [((.v 12), true)]),
        (none, .asg 7 (.v 13) .copy)])
      (.seq
       (.region [(16, 5, false), (14, 6, false)] [] [2, 3, 4] false [
         (none, .mv 14 (.v 6)),
         (none, .mv 15 (.v 7)),
         (none, .mv 16 (.v 5)),
         (none, .call (some 17) 675 true [((.v 16), true)]),
         (none, .asg 2 (.v 14) .move),
         (none, .asg 3 (.v 15) .copy),
         (none, .asg 4 (.v 17) .move)])
       (.ret [2, 3, 4]))))))⟩
def F471 : PFunc :=
 ⟨[false], [.tmp 2, .tmp 3, .tmp 4],
  (.seq
   (.region [] [] [0] false [
     (none, .asg 2 (.c (.sl true 3 [])) .copy),
     (none, .asg 3 (.c (.int .i64 0)) .copy),
     (none, .asg 4 (.c (.sl true 1 [])) .copy)])
   (.seq
    (.region [(5, 0, false)] [] [2, 3, 4] false [
      (none, .mv 5 (.v 0)),
      (none, .call (some 6) 669 false [((.v 5), false)]),
      (none, .ext 7 (.v 6) 0),
      (none, .extp 8 (.v 6) 1),
      (none, .ext 9 (.v 6) 2),
      (none, .asg 2 (.v 7) .move),
      (none, .asg 3 (.v 8) .copy),
      (none, .asg 4 (.v 9) .move)])
    (.ret [2, 3, 4])))⟩
def F678 : PFunc :=
 ⟨[false, false], [.tmp 4],
  (.seq
   (.region [] [] [0, 1] false [
     (none, .asg 4 (.c (.bool false)) .copy)])
   (.seq
    (.seq
     (.region [(8, 1, false), (6, 0, false)] [] [0, 1, 10] false [
       (none, .mv 6 (.v 0)),
       (none, .len 7 false (.v 6)),
       (none, .mv 8 (.v 1)),
       (none, .len 9 false (.v 8)),
       (none, .bin 10 .neq (.v 7) (.v 9))])
     (.cond (.v 10)
      (.seq
       (.region [(13, 1, false), (11, 0, false)] [] [4] false [
         (none, .mv 11 (.v 0)),
         (none, .len 12 false (.v 11)),
         (none, .mv 13 (.v 1)),
         (none, .len 14 false (.v 13)),
         (none, .bin 15 .lss (.v 12) (.v 14)),
         (none, .asg 4 (.v 15) .copy)])
       (.ret [4]))
      (.skip [0, 1])))
    (.seq
     (.seq
      (.region [] [] [0, 1, 5] false [
        (none, .asg 5 (.c (.int .i64 0)) .copy)])
      (.block 0
       (.loop
        (.seq
         (.seq
          (.region [(17, 0, false)] [] [0, 1, 5, 19] false [
            (none, .mv 16 (.v 5)),
            (none, .mv 17 (.v 0)),
            (none, .len 18 false (.v 17)),
            (none, .bin 19 .lss (.v 16) (.v 18))])
          (.cond (.v 19)
           (.skip [0, 1, 5])
           (.exit 0 [])))
         (.seq
          (.block 1
           (.seq
            (.region [(28, 1, false), (26, 1, false), (24, 0, false), (22, 0, false)] [] [0, 1, 5, 30] true [
              (none, .mv 22 (.v 0)),
              (none, .mv 23 (.v 5)),
              (none, .iadr 24 1 (.v 22) (.v 23)),
              (none, .load 25 false 1 (.v 24) none),
              (none, .mv 26 (.v 1)),
              (none, .mv 27 (.v 5)),
              (none, .iadr 28 1 (.v 26) (.v 27)),
              (none, .load 29 false 1 (.v 28) none),
              (none, .bin 30 .neq (.v 25) (.v 29))])
            (.cond (.v 30)
             (.seq
              (.region [(37, 1, false), (35, 1, false), (33, 0, false), (31, 0, false)] [] [4] true [
                (none, .mv 31 (.v 0)),
                (none, .mv 32 (.v 5)),
                (none, .iadr 33 1 (.v 31) (.v 32)),
                (none, .load 34 false 1 (.v 33) none),
                (none, .mv 35 (.v 1)),
                (none, .mv 36 (.v 5)),
                (none, .iadr 37 1 (.v 35) (.v 36)),
                (none, .load 38 false 1 (.v 37) none),
                (none, .bin 39 .lss (.v 34) (.v 38)),
                (none, .asg 4 (.v 39) .copy)])
              (.ret [4]))
             (.skip [0, 1, 5]))))
          (.region [] [] [0, 1, 5] false [
            (none, .mv 20 (.v 5)),
            (none, .bin 21 .add (.v 20) (.c (.int .i64 1))),
            (none, .asg 5 (.v 21) .copy)]))))))
     (.seq
      (.region [] [] [4] false [
        (none, .asg 4 (.c (.bool false)) .copy)])
      (.ret [4])))))⟩
def F519 : PFunc :=
 ⟨[false, false, false], [.tmp 6, .tmp 7],
  (.seq
   (.region [] [] [0, 1, 2] false [
     (none, .asg 6 (.c (.sl true 1 [])) .copy),
     (none, .asg 7 (.c (.int .i64 0)) .copy)])
   (.seq
    (.region [(16, 2, false), (14, 0, false)] [] [0, 1, 2, 8] false [
      (none, .mv 14 (.v 0)),
      (none, .mv 15 (.v 1)),
      (none, .mv 16 (.v 2)),
      (none, .call (some 17) 671 false [((.v 14), false), ((.v 15), false), ((.v 16), false)]),
      (none, .asg 8 (.v 17) .copy)])
    (.seq
     (.seq
      (.region [] [] [0, 1, 2, 8, 19] false [
        (none, .mv 18 (.v 8)),
        (none, .bin 19 .neq (.v 18) (.c (.int .i64 0)))])
      (.cond (.v 19)
       (.seq
        (.region [] [] [6, 7] false [
          (none, .mv 20 (.v 8)),
          (none, .asg 6 (.c (.sl true 1 [])) .copy),
          (none, .asg 7 (.v 20) .copy)])
        (.ret [6, 7]))
       (.skip [0, 1, 2])))
     (.seq
      (.region [] [] [0, 1, 2, 9] false [
        (none, .mksl 21 1 (.int .i64 0) 0 []),
        (none, .asg 9 (.v 21) .move)])
      (.seq
       (.region [] [] [0, 1, 2, 9, 10] false [
         (none, .asg 10 (.c (.bool false)) .copy)])
       (.seq
        (.seq
         (.region [] [] [0, 1, 2, 9, 10, 11] false [
           (none, .asg 11 (.c (.int .i64 0)) .copy)])
         (.block 0
          (.loop
           (.seq
            (.seq
             (.region [(23, 2, false)] [] [0, 1, 2, 9, 10, 11, 27] false [
               (none, .mv 22 (.v 11)),
               (none, .mv 23 (.v 2)),
               (none, .len 24 false (.v 23)),
               (none, .conv 25 .u64 (.v 24)),
               (none, .bin 26 .shl (.c (.int .i64 1)) (.v 25)),
               (none, .bin 27 .lss (.v 22) (.v 26))])
             (.cond (.v 27)
              (.skip [0, 1, 2, 9, 10, 11])
              (.exit 0 [9, 10])))
            (.seq
             (.block 1
              (.seq
               (.region [] [] [0, 1, 2, 9, 10, 11, 12] false [
                 (none, .mksl 30 1 (.int .i64 0) 0 []),
                 (none, .asg 12 (.v 30) .move)])
               (.seq
                (.seq
                 (.region [] [] [0, 1, 2, 9, 10, 11, 12, 13] false [
                   (none, .asg 13 (.c (.int .i64 0)) .copy)])
                 (.block 2
                  (.loop
                   (.seq
                    (.seq
                     (.region [(32, 2, false)] [] [0, 1, 2, 9, 10, 11, 12, 13, 34] false [
                       (none, .mv 31 (.v 13)),
                       (none, .mv 32 (.v 2)),
                       (none, .len 33 false (.v 32)),
                       (none, .bin 34 .lss (.v 31) (.v 33))])
                     (.cond (.v 34)
                      (.skip [0, 1, 2, 9, 10, 11, 12, 13])
                      (.exit 2 [0, 1, 2, 9, 10, 11, 12])))
                    (.seq
                     (.block 3
                      (.seq
                       (.region [] [] [0, 1, 2, 9, 10, 11, 12, 13, 42] false [
                         (none, .mv 37 (.v 11)),
                         (none, .mv 38 (.v 13)),
                         (none, .conv 39 .u64 (.v 38)),
                         (none, .bin 40 .shr (.v 37) (.v 39)),
                         (none, .bin 41 .and (.v 40) (.c (.int .i64 1))),
                         (none, .bin 42 .eql (.v 41) (.c (.int .i64 1)))])
                       (.cond (.v 42)
                        (.region [(43, 12, false)] [] [0, 1, 2, 9, 10, 11, 12, 13] false [
                          (none, .mv 43 (.v 12)),
                          (none, .mv 44 (.v 13)),
                          (none, .mksl 45 1 (.int .i64 0) 1 [(0, (.v 44), .copy)]),
                          (none, .app 46 1 (.v 43) (.v 45) .move),
                          (none, .asg 12 (.v 46) .move)])
                        (.skip [0, 1, 2, 9, 10, 11, 12, 13]))))
                     (.region [] [] [0, 1, 2, 9, 10, 11, 12, 13] false [
                       (none, .mv 35 (.v 13)),
                       (none, .bin 36 .add (.v 35) (.c (.int .i64 1))),
                       (none, .asg 13 (.v 36) .copy)]))))))
                (.seq
                 (.region [(57, 2, false), (55, 0, false), (51, 9, false), (50, 12, false)] [] [0, 1, 2, 9, 10, 11, 12, 62] false [
                   (none, .mv 47 (.v 10)),
                   (none, .un 48 .not (.v 47)),
                   (none, .mv 49 (.v 48)),
                   (some (49, false), .mv 50 (.v 12)),
                   (some (49, false), .mv 51 (.v 9)),
                   (some (49, false), .call (some 52) 678 false [((.v 50), false), ((.v 51), false)]),
                   (none, .pick 53 (.v 49) (.c (.bool true)) (.v 52)),
                   (none, .mv 54 (.v 53)),
                   (some (54, true), .mv 55 (.v 0)),
                   (some (54, true), .mv 56 (.v 1)),
                   (some (54, true), .mv 57 (.v 2)),
                   (some (54, true), .mv 58 (.v 11)),
                   (some (54, true), .call (some 59) 677 false [((.v 55), false), ((.v 56), false), ((.v 57), false), ((.v 58), false)]),
                   (some (54, true), .len 60 false (.v 59)),
                   (some (54, true), .bin 61 .eql (.v 60) (.c (.int .i64 0))),
                   (none, .pick 62 (.v 54) (.v 61) (.c (.bool false)))])
                 (.cond (.v 62)
                  (.seq
                   (.region [(63, 12, false)] [] [0, 1, 2, 9, 11] false [
                     (none, .mv 63 (.v 12)),
                     (none, .asg 9 (.v 63) .move)])
                   (.region [] [] [0, 1, 2, 9, 10, 11] false [
                     (none, .asg 10 (.c (.bool true)) .copy)]))
                  (.skip [0, 1, 2, 9, 10, 11]))))))
             (.region [] [] [0, 1, 2, 9, 10, 11] false [
               (none, .mv 28 (.v 11)),
               (none, .bin 29 .add (.v 28) (.c (.int .i64 1))),
               (none, .asg 11 (.v 29) .copy)]))))))
        (.seq
         (.seq
          (.region [] [] [9, 65] false [
            (none, .mv 64 (.v 10)),
            (none, .un 65 .not (.v 64))])
          (.cond (.v 65)
           (.seq
            (.region [] [] [6, 7] false [
              (none, .asg 6 (.c (.sl true 1 [])) .copy),
              (none, .asg 7 (.c (.int .i64 3)) .copy)])
            (.ret [6, 7]))
           (.skip [9])))
         (.seq
          (.region [(66, 9, false)] [] [6, 7] false [
            (none, .mv 66 (.v 9)),
            (none, .asg 6 (.v 66) .move),
            (none, .asg 7 (.c (.int .i64 0)) .copy)])
          (.ret [6, 7])))))))))⟩
def F531 : PFunc :=
 ⟨[false, false, false], [.tmp 6, .tmp 7],
  (.seq
   (.region [] [] [0, 1, 2] false [
     (none, .asg 6 (.c (.sl true 1 [])) .copy),
     (none, .asg 7 (.c (.int .i64 0)) .copy)])
   (.seq
    (.region [(11, 2, false), (9, 0, false)] [] [0, 1, 2, 8] false [
      (none, .mv 9 (.v 0)),
      (none, .mv 10 (.v 1)),
      (none, .mv 11 (.v 2)),
      (none, .call (some 12) 671 false [((.v 9), false), ((.v 10), false), ((.v 11), false)]),
      (none, .asg 8 (.v 12) .copy)])
    (.seq
     (.seq
      (.region [] [] [0, 1, 2, 8, 14] false [
        (none, .mv 13 (.v 8)),
        (none, .bin 14 .neq (.v 13) (.c (.int .i64 0)))])
      (.cond (.v 14)
       (.seq
        (.region [] [] [6, 7] false [
          (none, .mv 15 (.v 8)),
          (none, .asg 6 (.c (.sl true 1 [])) .copy),
          (none, .asg 7 (.v 15) .copy)])
        (.ret [6, 7]))
       (.skip [0, 1, 2])))
     (.seq
      (.region [(19, 2, false), (18, 2, false), (16, 0, false)] [] [6, 7] false [
        (none, .mv 16 (.v 0)),
        (none, .mv 17 (.v 1)),
        (none, .mv 18 (.v 2)),
        (none, .mv 19 (.v 2)),
        (none, .len 20 false (.v 19)),
        (none, .conv 21 .u64 (.v 20)),
        (none, .bin 22 .shl (.c (.int .i64 1)) (.v 21)),
        (none, .bin 23 .sub (.v 22) (.c (.int .i64 1))),
        (none, .call (some 24) 677 false [((.v 16), false), ((.v 17), false), ((.v 18), false), ((.v 23), false)]),
        (none, .asg 6 (.v 24) .move),
        (none, .asg 7 (.c (.int .i64 0)) .copy)])
      (.ret [6, 7])))))⟩
def F593 : PFunc :=
 ⟨[false], [.tmp 2],
  (.seq
   (.region [] [] [0] false [
     (none, .asg 2 (.c (.bool false)) .copy)])
   (.seq
    (.region [(3, 0, false)] [] [2] false [
      (none, .mv 3 (.v 0)),
      (none, .call (some 4) 680 false [((.v 3), false)]),
      (none, .asg 2 (.v 4) .copy)])
    (.ret [2])))⟩
def F362 : PFunc :=
 ⟨[false], [.tmp 2],
  (.seq
   (.region [] [] [0] false [
     (none, .asg 2 (.c (.bool false)) .copy)])
   (.seq
    (.seq
     (.region [(28, 0, false)] [] [0, 29] false [
       (none, .mv 28 (.v 0)),
       (none, .call (some 29) 398 false [((.v 28), false)])])
     (.cond (.v 29)
      (.seq
       (.region [] [] [2] false [
         (none, .asg 2 (.c (.bool true)) .copy)])
       (.ret [2]))
      (.skip [0])))
    (.seq
     (.region [(31, 0, false)] [] [3, 4, 5] false [
       (none, .mv 31 (.v 0)),
       (none, .call (some 32) 471 false [((.v 31), false)]),
       (none, .asg 30 (.v 32) .move),
       (none, .ext 33 (.v 30) 0),
       (none, .extp 34 (.v 30) 1),
       (none, .ext 35 (.v 30) 2),
       (none, .asg 3 (.v 33) .move),
       (none, .asg 4 (.v 34) .copy),
       (none, .asg 5 (.v 35) .move)])
     (.seq
      (.region [(39, 5, false), (37, 3, false)] [] [3, 4, 5, 6, 7] false [
        (none, .mv 37 (.v 3)),
        (none, .mv 38 (.v 4)),
        (none, .mv 39 (.v 5)),
        (none, .call (some 40) 88 false [((.v 37), false), ((.v 38), false), ((.v 39), false)]),
        (none, .asg 36 (.v 40) .move),
        (none, .ext 41 (.v 36) 0),
        (none, .extp 42 (.v 36) 1),
        (none, .asg 6 (.v 41) .move),
        (none, .asg 7 (.v 42) .copy)])
      (.seq
       (.region [(46, 5, false), (44, 3, false)] [] [3, 4, 5, 6, 7, 8, 9] false [
         (none, .mv 44 (.v 3)),
         (none, .mv 45 (.v 4)),
         (none, .mv 46 (.v 5)),
         (none, .call (some 47) 519 false [((.v 44), false), ((.v 45), false), ((.v 46), false)]),
         (none, .asg 43 (.v 47) .move),
         (none, .ext 48 (.v 43) 0),
         (none, .extp 49 (.v 43) 1),
         (none, .asg 8 (.v 48) .move),
         (none, .asg 9 (.v 49) .copy)])
       (.seq
        (.region [(53, 5, false), (51, 3, false)] [] [3, 4, 5, 6, 7, 8, 9, 10, 11] false [
          (none, .mv 51 (.v 3)),
          (none, .mv 52 (.v 4)),
          (none, .mv 53 (.v 5)),
          (none, .call (some 54) 110 false [((.v 51), false), ((.v 52), false), ((.v 53), false)]),
          (none, .asg 50 (.v 54) .move),
          (none, .ext 55 (.v 50) 0),
          (none, .extp 56 (.v 50) 1),
          (none, .asg 10 (.v 55) .move),
          (none, .asg 11 (.v 56) .copy)])
        (.seq
         (.region [(60, 5, false), (58, 3, false)] [] [3, 4, 5, 6, 7, 8, 9, 10, 11, 12, 13] false [
           (none, .mv 58 (.v 3)),
           (none, .mv 59 (.v 4)),
           (none, .mv 60 (.v 5)),
           (none, .call (some 61) 531 false [((.v 58), false), ((.v 59), false), ((.v 60), false)]),
           (none, .asg 57 (.v 61) .move),
           (none, .ext 62 (.v 57) 0),
           (none, .extp 63 (.v 57) 1),
           (none, .asg 12 (.v 62) .move),
           (none, .asg 13 (.v 63) .copy)])
         (.seq
          (.region [(67, 5, false), (65, 3, false)] [] [3, 4, 5, 6, 7, 8, 9, 10, 11, 12, 13, 14, 15, 16] false [
            (none, .mv 65 (.v 3)),
            (none, .mv 66 (.v 4)),
            (none, .mv 67 (.v 5)),
            (none, .call (some 68) 50 false [((.v 65), false), ((.v 66), false), ((.v 67), false)]),
            (none, .asg 64 (.v 68) .copy),
            (none, .extp 69 (.v 64) 0),
            (none, .extp 70 (.v 64) 1),
            (none, .extp 71 (.v 64) 2),
            (none, .asg 14 (.v 69) .copy),
            (none, .asg 15 (.v 70) .copy),
            (none, .asg 16 (.v 71) .copy)])
          (.seq
           (.region [(75, 5, false), (73, 3, false)] [] [3, 4, 5, 6, 7, 8, 9, 10, 11, 12, 13, 14, 15, 16, 17, 18, 19] false [
             (none, .mv 73 (.v 3)),
             (none, .mv 74 (.v 4)),
             (none, .mv 75 (.v 5)),
             (none, .call (some 76) 439 false [((.v 73), false), ((.v 74), false), ((.v 75), false)]),
             (none, .asg 72 (.v 76) .copy),
             (none, .extp 77 (.v 72) 0),
             (none, .extp 78 (.v 72) 1),
             (none, .extp 79 (.v 72) 2),
             (none, .asg 17 (.v 77) .copy),
             (none, .asg 18 (.v 78) .copy),
             (none, .asg 19 (.v 79) .copy)])
           (.seq
            (.seq
             (.region [(118, 3, false), (116, 3, false), (96, 12, false), (95, 10, false), (85, 8, false), (84, 6, false)] [] [3, 4, 5, 7, 8, 11, 12, 16, 17, 18, 121] false [
               (none, .mv 80 (.v 7)),
               (none, .mv 81 (.v 9)),
               (none, .bin 82 .neq (.v 80) (.v 81)),
               (none, .mv 83 (.v 82)),
               (some (83, false), .mv 84 (.v 6)),
               (some (83, false), .mv 85 (.v 8)),
               (some (83, false), .call (some 86) 400 false [((.v 84), false), ((.v 85), false)]),
               (some (83, false), .un 87 .not (.v 86)),
               (none, .pick 88 (.v 83) (.c (.bool true)) (.v 87)),
               (none, .mv 89 (.v 88)),
               (some (89, false), .mv 90 (.v 11)),
               (some (89, false), .mv 91 (.v 13)),
               (some (89, false), .bin 92 .neq (.v 90) (.v 91)),
               (none, .pick 93 (.v 89) (.c (.bool true)) (.v 92)),
               (none, .mv 94 (.v 93)),
               (some (94, false), .mv 95 (.v 10)),
               (some (94, false), .mv 96 (.v 12)),
               (some (94, false), .call (some 97) 400 false [((.v 95), false), ((.v 96), false)]),
               (some (94, false), .un 98 .not (.v 97)),
               (none, .pick 99 (.v 94) (.c (.bool true)) (.v 98)),
               (none, .mv 100 (.v 99)),
               (some (100, false), .mv 101 (.v 16)),
               (some (100, false), .mv 102 (.v 19)),
               (some (100, false), .bin 103 .neq (.v 101) (.v 102)),
               (none, .pick 104 (.v 100) (.c (.bool true)) (.v 103)),
               (none, .mv 105 (.v 104)),
               (some (105, false), .mv 106 (.v 14)),
               (some (105, false), .mv 107 (.v 17)),
               (some (105, false), .bin 108 .neq (.v 106) (.v 107)),
               (none, .pick 109 (.v 105) (.c (.bool true)) (.v 108)),
               (none, .mv 110 (.v 109)),
               (some (110, false), .mv 111 (.v 15)),
               (some (110, false), .mv 112 (.v 18)),
               (some (110, false), .bin 113 .neq (.v 111) (.v 112)),
               (none, .pick 114 (.v 110) (.c (.bool true)) (.v 113)),
               (none, .mv 115 (.v 114)),
               (some (115, false), .mv 116 (.v 3)),
               (some (115, false), .call (some 117) 218 false [((.v 116), false)]),
               (some (115, false), .mv 118 (.v 3)),
               (some (115, false), .call (some 119) 593 false [((.v 118), false)]),
               (some (115, false), .eqb 120 true (.v 117) (.v 119)),
               (none, .pick 121 (.v 115) (.c (.bool true)) (.v 120))])
             (.cond (.v 121)
              (.seq
               (.region [] [] [2] false [
                 (none, .asg 2 (.c (.bool false)) .copy)])
               (.ret [2]))
              (.skip [3, 4, 5, 7, 8, 11, 12, 16, 17, 18])))
            (.seq
             (.seq
              (.region [(125, 12, false)] [] [3, 4, 5, 7, 8, 12, 16, 17, 18, 131] false [
                (none, .mv 122 (.v 11)),
                (none, .bin 123 .eql (.v 122) (.c (.int .i64 0))),
                (none, .mv 124 (.v 123)),
                (some (124, true), .mv 125 (.v 12)),
                (some (124, true), .len 126 false (.v 125)),
                (some (124, true), .bin 127 .eql (.v 126) (.c (.int .i64 0))),
                (some (124, true), .mv 128 (.v 7)),
                (some (124, true), .bin 129 .eql (.v 128) (.c (.int .i64 0))),
                (some (124, true), .eqb 130 true (.v 127) (.v 129)),
                (none, .pick 131 (.v 124) (.v 130) (.c (.bool false)))])
              (.cond (.v 131)
               (.seq
                (.region [] [] [2] false [
                  (none, .asg 2 (.c (.bool false)) .copy)])
                (.ret [2]))
               (.skip [3, 4, 5, 7, 8, 12, 16, 17, 18])))
             (.seq
              (.seq
               (.region [] [] [3, 4, 5, 7, 8, 12, 17, 18, 133] false [
                 (none, .mv 132 (.v 16)),
                 (none, .bin 133 .eql (.v 132) (.c (.int .i64 0)))])
               (.cond (.v 133)
                (.seq
                 (.region [(135, 3, false)] [] [3, 4, 5, 7, 8, 12, 18, 20, 21] false [
                   (none, .mv 135 (.v 3)),
                   (none, .mv 136 (.v 4)),
                   (none, .mv 137 (.v 17)),
                   (none, .mksl 138 1 (.int .i64 0) 1 [(0, (.v 137), .copy)]),
                   (none, .call (some 139) 110 false [((.v 135), false), ((.v 136), false), ((.v 138), false)]),
                   (none, .asg 134 (.v 139) .move),
                   (none, .ext 140 (.v 134) 0),
                   (none, .extp 141 (.v 134) 1),
                   (none, .asg 20 (.v 140) .move),
                   (none, .asg 21 (.v 141) .copy)])
                 (.seq
                  (.seq
                   (.region [(150, 12, false)] [] [3, 4, 5, 7, 8, 12, 18, 20, 153] false [
                     (none, .mv 142 (.v 21)),
                     (none, .bin 143 .neq (.v 142) (.c (.int .i64 0))),
                     (none, .mv 144 (.v 143)),
                     (some (144, false), .mv 145 (.v 18)),
                     (some (144, false), .bin 146 .lss (.v 145) (.c (.int .i64 1))),
                     (none, .pick 147 (.v 144) (.c (.bool true)) (.v 146)),
                     (none, .mv 148 (.v 147)),
                     (some (148, false), .mv 149 (.v 18)),
                     (some (148, false), .mv 150 (.v 12)),
                     (some (148, false), .len 151 false (.v 150)),
                     (some (148, false), .bin 152 .gtr (.v 149) (.v 151)),
                     (none, .pick 153 (.v 148) (.c (.bool true)) (.v 152))])
                   (.cond (.v 153)
                    (.seq
                     (.region [] [] [2] false [
                       (none, .asg 2 (.c (.bool false)) .copy)])
                     (.ret [2]))
                    (.skip [3, 4, 5, 7, 8, 12, 18, 20])))
                  (.seq
                   (.region [] [] [3, 4, 5, 7, 8, 12, 18, 20, 22] false [
                     (none, .asg 22 (.c (.int .i64 0)) .copy)])
                   (.seq
                    (.seq
                     (.region [] [] [3, 4, 5, 7, 8, 12, 18, 20, 22, 23] false [
                       (none, .asg 23 (.c (.int .i64 0)) .copy)])
                     (.block 0
                      (.loop
                       (.seq
                        (.seq
                         (.region [(155, 12, false)] [] [3, 4, 5, 7, 8, 12, 18, 20, 22, 23, 157] false [
                           (none, .mv 154 (.v 23)),
                           (none, .mv 155 (.v 12)),
                           (none, .len 156 false (.v 155)),
                           (none, .bin 157 .lss (.v 154) (.v 156))])
                         (.cond (.v 157)
                          (.skip [3, 4, 5, 7, 8, 12, 18, 20, 22, 23])
                          (.exit 0 [3, 4, 5, 7, 8, 18, 22])))
                        (.seq
                         (.block 1
                          (.seq
                           (.region [(163, 12, false), (161, 12, false), (160, 20, false)] [] [3, 4, 5, 7, 8, 12, 18, 20, 22, 23, 166] false [
                             (none, .mv 160 (.v 20)),
                             (none, .mv 161 (.v 12)),
                             (none, .mv 162 (.v 23)),
                             (none, .iadr 163 1 (.v 161) (.v 162)),
                             (none, .load 164 false 1 (.v 163) none),
                             (none, .call (some 165) 399 false [((.v 160), false), ((.v 164), false)]),
                             (none, .un 166 .not (.v 165))])
                           (.cond (.v 166)
                            (.region [] [] [3, 4, 5, 7, 8, 12, 18, 20, 22, 23] false [
                              (none, .mv 167 (.v 22)),
                              (none, .bin 168 .add (.v 167) (.c (.int .i64 1))),
                              (none, .asg 22 (.v 168) .copy)])
                            (.skip [3, 4, 5, 7, 8, 12, 18, 20, 22, 23]))))
                         (.region [] [] [3, 4, 5, 7, 8, 12, 18, 20, 22, 23] false [
                           (none, .mv 158 (.v 23)),
                           (none, .bin 159 .add (.v 158) (.c (.int .i64 1))),
                           (none, .asg 23 (.v 159) .copy)]))))))
                    (.seq
                     (.region [] [] [3, 4, 5, 7, 8, 171] false [
                       (none, .mv 169 (.v 22)),
                       (none, .mv 170 (.v 18)),
                       (none, .bin 171 .neq (.v 169) (.v 170))])
                     (.cond (.v 171)
                      (.seq
                       (.region [] [] [2] false [
                         (none, .asg 2 (.c (.bool false)) .copy)])
                       (.ret [2]))
                      (.skip [3, 4, 5, 7, 8])))))))
                (.skip [3, 4, 5, 7, 8])))
              (.seq
               (.seq
                (.region [] [] [3, 4, 5, 8, 173] false [
                  (none, .mv 172 (.v 7)),
                  (none, .bin 173 .neq (.v 172) (.c (.int .i64 0)))])
                (.cond (.v 173)
                 (.seq
                  (.region [] [] [2] false [
                    (none, .asg 2 (.c (.bool true)) .copy)])
                  (.ret [2]))
                 (.skip [3, 4, 5, 8])))
               (.seq
                (.region [] [] [3, 4, 5, 8, 24] false [
                  (none, .mksl 174 1 (.int .i64 0) 0 []),
                  (none, .asg 24 (.v 174) .move)])
                (.seq
                 (.seq
                  (.region [] [] [3, 4, 5, 8, 24, 25] false [
                    (none, .asg 25 (.c (.int .i64 0)) .copy)])
                  (.block 2
                   (.loop
                    (.seq
                     (.seq
                      (.region [(176, 8, false)] [] [3, 4, 5, 8, 24, 25, 178] false [
                        (none, .mv 175 (.v 25)),
                        (none, .mv 176 (.v 8)),
                        (none, .len 177 false (.v 176)),
                        (none, .bin 178 .lss (.v 175) (.v 177))])
                      (.cond (.v 178)
                       (.skip [3, 4, 5, 8, 24, 25])
                       (.exit 2 [3, 4, 24])))
                     (.seq
                      (.block 3
                       (.region [(187, 5, false), (185, 8, false), (183, 8, false), (182, 5, false), (181, 24, false)] [] [3, 4, 5, 8, 24, 25] false [
                         (none, .mv 181 (.v 24)),
                         (none, .mv 182 (.v 5)),
                         (none, .mv 183 (.v 8)),
                         (none, .mv 184 (.v 25)),
                         (none, .iadr 185 1 (.v 183) (.v 184)),
                         (none, .load 186 false 1 (.v 185) none),
                         (none, .iadr 187 1 (.v 182) (.v 186)),
                         (none, .load 188 false 1 (.v 187) none),
                         (none, .mksl 189 1 (.int .i64 0) 1 [(0, (.v 188), .copy)]),
                         (none, .app 190 1 (.v 181) (.v 189) .move),
                         (none, .asg 24 (.v 190) .move)]))
                      (.region [] [] [3, 4, 5, 8, 24, 25] false [
                        (none, .mv 179 (.v 25)),
                        (none, .bin 180 .add (.v 179) (.c (.int .i64 1))),
                        (none, .asg 25 (.v 180) .copy)]))))))
                 (.seq
                  (.region [(194, 24, false), (192, 3, false)] [] [26, 27] false [
                    (none, .mv 192 (.v 3)),
                    (none, .mv 193 (.v 4)),
                    (none, .mv 194 (.v 24)),
                    (none, .call (some 195) 110 false [((.v 192), false), ((.v 193), false), ((.v 194), false)]),
                    (none, .asg 191 (.v 195) .move),
                    (none, .ext 196 (.v 191) 0),
                    (none, .extp 197 (.v 191) 1),
                    (none, .asg 26 (.v 196) .move),
                    (none, .asg 27 (.v 197) .copy)])
                  (.seq
                   (.region [(201, 26, false)] [] [2] false [
                     (none, .mv 198 (.v 27)),
                     (none, .bin 199 .eql (.v 198) (.c (.int .i64 0))),
                     (none, .mv 200 (.v 199)),
                     (some (200, true), .mv 201 (.v 26)),
                     (some (200, true), .len 202 false (.v 201)),
                     (some (200, true), .bin 203 .eql (.v 202) (.c (.int .i64 0))),
                     (none, .pick 204 (.v 200) (.v 203) (.c (.bool false))),
                     (none, .asg 2 (.v 204) .copy)])
                   (.ret [2]))))))))))))))))))⟩
def tabl : List (Nat × PFunc) := [(326, F326), (281, F281), (322, F322), (219, F219), (824, F824), (802, F802), (218, F218), (275, F275), (288, F288), (818, F818), (796, F796), (287, F287), (270, F270), (314, F314), (244, F244), (243, F243), (271, F271), (50, F50), (89, F89), (273, F273), (31, F31), (27, F27), (792, F792), (88, F88), (110, F110), (398, F398), (399, F399), (400, F400), (605, F605), (681, F681), (680, F680), (682, F682), (676, F676), (684, F684), (671, F671), (685, F685), (677, F677), (439, F439), (603, F603), (5, F5), (7, F7), (6, F6), (679, F679), (4, F4), (683, F683), (672, F672), (674, F674), (673, F673), (675, F675), (669, F669), (471, F471), (678, F678), (519, F519), (531, F531), (593, F593), (362, F362)]
def T : Nat → Option PFunc := tabOf tabl
end Go.Vs.G
