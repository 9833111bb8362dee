/- The functions that the law reaches, in the small language, printed by program. No conditions. -/
import Derived.Test.YtiefnapeghkjnaaDLLensFits
import Derived.Test.YtiefnapeghkjnaaV4
set_option maxRecDepth 100000
open Go Go.Vs
namespace Go.Vs.G
def F326 : PFunc :=
 ⟨[false, false, false], [.tmp 6],
  (.seq
   (.region [] [] [0, 1, 2] false [
     (none, .asg 6 (.c (.bool false)) .copy)])
   (.seq
    (.region [] [] [6] false [
      (none, .mv 7 (.v 0)),
      (none, .mv 8 (.v 1)),
      (none, .bin 9 .geq (.v 7) (.v 8)),
      (none, .mv 10 (.v 9)),
      (some (10, true), .mv 11 (.v 0)),
      (some (10, true), .mv 12 (.v 2)),
      (some (10, true), .bin 13 .leq (.v 11) (.v 12)),
      (none, .pick 14 (.v 10) (.v 13) (.c (.bool false))),
      (none, .asg 6 (.v 14) .copy)])
    (.ret [6])))⟩
def F275 : PFunc :=
 ⟨[false], [.tmp 2],
  (.seq
   (.region [] [] [0] false [
     (none, .asg 2 (.c (.bool false)) .copy)])
   (.seq
    (.region [] [] [2] false [
      (none, .mv 3 (.v 0)),
      (none, .call (some 4) 326 false [((.v 3), false), ((.c (.int .i64 1)), false), ((.c (.int .i64 2000)), false)]),
      (none, .asg 2 (.v 4) .copy)])
    (.ret [2])))⟩
def F288 : PFunc :=
 ⟨[false], [.tmp 2],
  (.seq
   (.region [] [] [0] false [
     (none, .asg 2 (.c (.bool false)) .copy)])
   (.seq
    (.region [] [] [2] false [
      (none, .mv 3 (.v 0)),
      (none, .call (some 4) 275 false [((.v 3), false)]),
      (none, .un 5 .not (.v 4)),
      (none, .asg 2 (.v 5) .copy)])
    (.ret [2])))⟩
def F818 : PFunc :=
 ⟨[false, false], [.tmp 4],
  (.seq
   (.region [] [] [0, 1] false [
     (none, .asg 4 (.c (.int .i64 0)) .copy)])
   (.seq
    (.seq
     (.region [(6, 0, false)] [] [0, 1, 7, 8] false [
       (none, .mv 6 (.v 0)),
       (none, .len 7 false (.v 6)),
       (none, .mv 8 (.c (.int .i64 0)))])
     (.block 0
      (.loop
       (.seq
        (.region [] [] [0, 1, 7, 8, 9] false [
          (none, .bin 9 .lss (.v 8) (.v 7))])
        (.seq
         (.cond (.v 9)
          (.skip [0, 1, 7, 8])
          (.exit 0 []))
         (.seq
          (.block 1
           (.seq
            (.region [] [] [0, 1, 5, 7, 8] false [
              (none, .mv 10 (.v 8)),
              (none, .asg 5 (.v 10) .copy)])
            (.seq
             (.region [(14, 0, false), (12, 0, false), (11, 1, false)] [] [0, 1, 5, 7, 8, 16] false [
               (none, .mv 11 (.v 1)),
               (none, .mv 12 (.v 0)),
               (none, .mv 13 (.v 5)),
               (none, .iadr 14 1 (.v 12) (.v 13)),
               (none, .load 15 false 1 (.v 14) none),
               (none, .callv (some 16) (.v 11) [(.v 15)])])
             (.cond (.v 16)
              (.seq
               (.region [] [] [4] false [
                 (none, .mv 17 (.v 5)),
                 (none, .asg 4 (.v 17) .copy)])
               (.ret [4]))
              (.skip [0, 1, 7, 8])))))
          (.region [] [] [0, 1, 7, 8] false [
            (none, .bin 18 .add (.v 8) (.c (.int .i64 1))),
            (none, .mv 8 (.v 18))])))))))
    (.seq
     (.region [] [] [4] false [
       (none, .asg 4 (.c (.int .i64 (-1))) .copy)])
     (.ret [4]))))⟩
def F796 : PFunc :=
 ⟨[false, false], [.tmp 4],
  (.seq
   (.region [] [] [0, 1] false [
     (none, .asg 4 (.c (.bool false)) .copy)])
   (.seq
    (.region [(6, 1, false), (5, 0, false)] [] [4] false [
      (none, .mv 5 (.v 0)),
      (none, .mv 6 (.v 1)),
      (none, .call (some 7) 818 false [((.v 5), false), ((.v 6), false)]),
      (none, .bin 8 .geq (.v 7) (.c (.int .i64 0))),
      (none, .asg 4 (.v 8) .copy)])
    (.ret [4])))⟩
def F287 : PFunc :=
 ⟨[false, false], [.tmp 4],
  (.seq
   (.region [] [] [0, 1] false [
     (none, .asg 4 (.c (.bool false)) .copy)])
   (.seq
    (.region [(10, 0, false), (5, 0, false)] [] [4] false [
      (none, .mv 5 (.v 0)),
      (none, .len 6 false (.v 5)),
      (none, .mv 7 (.v 1)),
      (none, .bin 8 .leq (.v 6) (.v 7)),
      (none, .mv 9 (.v 8)),
      (some (9, true), .mv 10 (.v 0)),
      (some (9, true), .call (some 11) 796 false [((.v 10), false), ((.c (.fn 288 [])), false)]),
      (some (9, true), .un 12 .not (.v 11)),
      (none, .pick 13 (.v 9) (.v 12) (.c (.bool false))),
      (none, .asg 4 (.v 13) .copy)])
    (.ret [4])))⟩
def F270 : PFunc :=
 ⟨[false, false, false, false], [.tmp 8],
  (.seq
   (.region [] [] [0, 1, 2, 3] false [
     (none, .asg 8 (.c (.int .i64 0)) .copy)])
   (.seq
    (.block 0
     (.seq
      (.region [] [] [1, 2, 3, 9] false [
        (none, .mv 10 (.v 0)),
        (none, .un 11 .not (.v 10)),
        (none, .asg 9 (.v 11) .copy)])
      (.cond (.v 9)
       (.seq
        (.region [] [] [8] false [
          (none, .asg 8 (.c (.int .i64 1)) .copy)])
        (.ret [8]))
       (.seq
        (.region [(22, 3, false)] [] [12] false [
          (none, .mv 13 (.v 1)),
          (none, .call (some 14) 326 false [((.v 13), false), ((.c (.int .i64 1)), false), ((.c (.int .i64 200)), false)]),
          (none, .un 15 .not (.v 14)),
          (none, .mv 16 (.v 15)),
          (some (16, false), .mv 17 (.v 2)),
          (some (16, false), .call (some 18) 275 false [((.v 17), false)]),
          (some (16, false), .un 19 .not (.v 18)),
          (none, .pick 20 (.v 16) (.c (.bool true)) (.v 19)),
          (none, .mv 21 (.v 20)),
          (some (21, false), .mv 22 (.v 3)),
          (some (21, false), .call (some 23) 287 false [((.v 22), false), ((.c (.int .i64 12)), false)]),
          (some (21, false), .un 24 .not (.v 23)),
          (none, .pick 25 (.v 21) (.c (.bool true)) (.v 24)),
          (none, .asg 12 (.v 25) .copy)])
        (.cond (.v 12)
         (.seq
          (.region [] [] [8] false [
            (none, .asg 8 (.c (.int .i64 2)) .copy)])
          (.ret [8]))
         (.skip []))))))
    (.seq
     (.region [] [] [8] false [
       (none, .asg 8 (.c (.int .i64 0)) .copy)])
     (.ret [8]))))⟩
def F314 : PFunc :=
 ⟨[false, false, false], [.tmp 6],
  (.seq
   (.region [] [] [1, 2, 3] false [
     (none, .box 3 (.v 0) .copy),
     (none, .asg 6 (.c (.bool false)) .copy)])
   (.seq
    (.region [(9, 3, false)] [] [2, 3, 7] false [
      (none, .mv 8 (.v 1)),
      (none, .fadr 9 0 1 (.v 3)),
      (none, .load 10 false 1 (.v 9) none),
      (none, .mv 11 (.v 2)),
      (none, .bin 12 .sub (.v 10) (.v 11)),
      (none, .bin 13 .mul (.v 8) (.v 12)),
      (none, .asg 7 (.v 13) .copy)])
    (.seq
     (.region [(22, 3, false), (15, 3, false)] [] [6] false [
       (none, .mv 14 (.v 7)),
       (none, .fadr 15 1 1 (.v 3)),
       (none, .load 16 false 1 (.v 15) none),
       (none, .mv 17 (.v 2)),
       (none, .bin 18 .mul (.v 16) (.v 17)),
       (none, .bin 19 .geq (.v 14) (.v 18)),
       (none, .mv 20 (.v 19)),
       (some (20, true), .mv 21 (.v 7)),
       (some (20, true), .fadr 22 2 1 (.v 3)),
       (some (20, true), .load 23 false 1 (.v 22) none),
       (some (20, true), .mv 24 (.v 2)),
       (some (20, true), .bin 25 .mul (.v 23) (.v 24)),
       (some (20, true), .bin 26 .leq (.v 21) (.v 25)),
       (none, .pick 27 (.v 20) (.v 26) (.c (.bool false))),
       (none, .asg 6 (.v 27) .copy)])
     (.ret [6]))))⟩
def F281 : PFunc :=
 ⟨[false], [.tmp 2],
  (.seq
   (.region [] [] [0] false [
     (none, .asg 2 (.c (.bool false)) .copy)])
   (.seq
    (.region [] [] [2] false [
      (none, .mv 3 (.v 0)),
      (none, .call (some 4) 326 false [((.v 3), false), ((.c (.int .i64 1)), false), ((.c (.int .i64 100000)), false)]),
      (none, .asg 2 (.v 4) .copy)])
    (.ret [2])))⟩
def F322 : PFunc :=
 ⟨[false], [.tmp 2],
  (.seq
   (.region [] [] [1] false [
     (none, .box 1 (.v 0) .copy),
     (none, .asg 2 (.c (.bool false)) .copy)])
   (.seq
    (.region [(19, 1, false), (14, 1, false), (12, 1, false), (7, 1, false), (3, 1, false)] [] [2] false [
      (none, .fadr 3 0 1 (.v 1)),
      (none, .load 4 false 1 (.v 3) none),
      (none, .call (some 5) 281 false [((.v 4), false)]),
      (none, .mv 6 (.v 5)),
      (some (6, true), .fadr 7 1 1 (.v 1)),
      (some (6, true), .load 8 false 1 (.v 7) none),
      (some (6, true), .bin 9 .leq (.c (.int .i64 1)) (.v 8)),
      (none, .pick 10 (.v 6) (.v 9) (.c (.bool false))),
      (none, .mv 11 (.v 10)),
      (some (11, true), .fadr 12 1 1 (.v 1)),
      (some (11, true), .load 13 false 1 (.v 12) none),
      (some (11, true), .fadr 14 2 1 (.v 1)),
      (some (11, true), .load 15 false 1 (.v 14) none),
      (some (11, true), .bin 16 .leq (.v 13) (.v 15)),
      (none, .pick 17 (.v 11) (.v 16) (.c (.bool false))),
      (none, .mv 18 (.v 17)),
      (some (18, true), .fadr 19 2 1 (.v 1)),
      (some (18, true), .load 20 false 1 (.v 19) none),
      (some (18, true), .bin 21 .leq (.v 20) (.c (.int .i64 100000))),
      (none, .pick 22 (.v 18) (.v 21) (.c (.bool false))),
      (none, .asg 2 (.v 22) .copy)])
    (.ret [2])))⟩
def F101 : PFunc :=
 ⟨[false, false], [.tmp 4, .tmp 5, .tmp 6],
  (.seq
   (.region [] [] [1, 2] false [
     (none, .box 2 (.v 0) .copy),
     (none, .asg 4 (.c (.int .i64 0)) .copy),
     (none, .asg 5 (.c (.int .i64 0)) .copy),
     (none, .asg 6 (.c (.int .i64 0)) .copy)])
   (.seq
    (.seq
     (.region [] [] [1, 2, 7] false [
       (none, .load 11 true 3 (.v 2) none),
       (none, .call (some 12) 322 false [((.v 11), false)]),
       (none, .mv 13 (.v 1)),
       (none, .call (some 14) 270 false [((.v 12), false), ((.v 13), false), ((.c (.int .i64 1)), false), ((.c (.sl false 1 [])), false)]),
       (none, .asg 7 (.v 14) .copy)])
     (.seq
      (.region [] [] [1, 2, 7, 16] false [
        (none, .mv 15 (.v 7)),
        (none, .bin 16 .neq (.v 15) (.c (.int .i64 0)))])
      (.cond (.v 16)
       (.seq
        (.region [] [] [4, 5, 6] false [
          (none, .mv 17 (.v 7)),
          (none, .asg 4 (.c (.int .i64 0)) .copy),
          (none, .asg 5 (.c (.int .i64 0)) .copy),
          (none, .asg 6 (.v 17) .copy)])
        (.ret [4, 5, 6]))
       (.skip [1, 2]))))
    (.seq
     (.region [] [] [1, 2, 8, 9] false [
       (none, .asg 8 (.c (.int .i64 0)) .copy),
       (none, .asg 9 (.c (.int .i64 0)) .copy)])
     (.seq
      (.seq
       (.region [] [] [1, 2, 8, 9, 10] false [
         (none, .asg 10 (.c (.int .i64 1)) .copy)])
       (.block 0
        (.loop
         (.seq
          (.seq
           (.region [] [] [1, 2, 8, 9, 10, 19] false [
             (none, .mv 18 (.v 10)),
             (none, .bin 19 .leq (.v 18) (.c (.int .i64 2000)))])
           (.cond (.v 19)
            (.skip [1, 2, 8, 9, 10])
            (.exit 0 [8, 9])))
          (.seq
           (.block 1
            (.seq
             (.region [] [] [1, 2, 8, 9, 10, 25] false [
               (none, .load 22 true 3 (.v 2) none),
               (none, .mv 23 (.v 1)),
               (none, .mv 24 (.v 10)),
               (none, .call (some 25) 314 false [((.v 22), false), ((.v 23), false), ((.v 24), false)])])
             (.cond (.v 25)
              (.seq
               (.seq
                (.region [] [] [1, 2, 8, 10, 27] false [
                  (none, .mv 26 (.v 8)),
                  (none, .bin 27 .eql (.v 26) (.c (.int .i64 0)))])
                (.cond (.v 27)
                 (.region [] [] [1, 2, 8, 10] false [
                   (none, .mv 28 (.v 10)),
                   (none, .asg 8 (.v 28) .copy)])
                 (.skip [1, 2, 8, 10])))
               (.region [] [] [1, 2, 8, 9, 10] false [
                 (none, .mv 29 (.v 10)),
                 (none, .asg 9 (.v 29) .copy)]))
              (.skip [1, 2, 8, 9, 10]))))
           (.region [] [] [1, 2, 8, 9, 10] false [
             (none, .mv 20 (.v 10)),
             (none, .bin 21 .add (.v 20) (.c (.int .i64 1))),
             (none, .asg 10 (.v 21) .copy)]))))))
      (.seq
       (.seq
        (.region [] [] [8, 9, 31] false [
          (none, .mv 30 (.v 8)),
          (none, .bin 31 .eql (.v 30) (.c (.int .i64 0)))])
        (.cond (.v 31)
         (.seq
          (.region [] [] [4, 5, 6] false [
            (none, .asg 4 (.c (.int .i64 0)) .copy),
            (none, .asg 5 (.c (.int .i64 0)) .copy),
            (none, .asg 6 (.c (.int .i64 3)) .copy)])
          (.ret [4, 5, 6]))
         (.skip [8, 9])))
       (.seq
        (.region [] [] [4, 5, 6] false [
          (none, .mv 32 (.v 8)),
          (none, .mv 33 (.v 9)),
          (none, .asg 4 (.v 32) .copy),
          (none, .asg 5 (.v 33) .copy),
          (none, .asg 6 (.c (.int .i64 0)) .copy)])
        (.ret [4, 5, 6])))))))⟩
def F219 : PFunc :=
 ⟨[false], [.tmp 2],
  (.seq
   (.region [] [] [1] false [
     (none, .box 1 (.v 0) .copy),
     (none, .asg 2 (.c (.bool false)) .copy)])
   (.seq
    (.region [] [] [2] false [
      (none, .load 3 true 3 (.v 1) none),
      (none, .call (some 4) 322 false [((.v 3), false)]),
      (none, .un 5 .not (.v 4)),
      (none, .asg 2 (.v 5) .copy)])
    (.ret [2])))⟩
def F824 : PFunc :=
 ⟨[false, false], [.tmp 4],
  (.seq
   (.region [] [] [0, 1] false [
     (none, .asg 4 (.c (.int .i64 0)) .copy)])
   (.seq
    (.seq
     (.region [(6, 0, false)] [] [0, 1, 7, 8] false [
       (none, .mv 6 (.v 0)),
       (none, .len 7 false (.v 6)),
       (none, .mv 8 (.c (.int .i64 0)))])
     (.block 0
      (.loop
       (.seq
        (.region [] [] [0, 1, 7, 8, 9] false [
          (none, .bin 9 .lss (.v 8) (.v 7))])
        (.seq
         (.cond (.v 9)
          (.skip [0, 1, 7, 8])
          (.exit 0 []))
         (.seq
          (.block 1
           (.seq
            (.region [] [] [0, 1, 5, 7, 8] false [
              (none, .mv 10 (.v 8)),
              (none, .asg 5 (.v 10) .copy)])
            (.seq
             (.region [(14, 0, false), (12, 0, false), (11, 1, false)] [] [0, 1, 5, 7, 8, 16] false [
               (none, .mv 11 (.v 1)),
               (none, .mv 12 (.v 0)),
               (none, .mv 13 (.v 5)),
               (none, .iadr 14 3 (.v 12) (.v 13)),
               (none, .load 15 true 3 (.v 14) none),
               (none, .callv (some 16) (.v 11) [(.v 15)])])
             (.cond (.v 16)
              (.seq
               (.region [] [] [4] false [
                 (none, .mv 17 (.v 5)),
                 (none, .asg 4 (.v 17) .copy)])
               (.ret [4]))
              (.skip [0, 1, 7, 8])))))
          (.region [] [] [0, 1, 7, 8] false [
            (none, .bin 18 .add (.v 8) (.c (.int .i64 1))),
            (none, .mv 8 (.v 18))])))))))
    (.seq
     (.region [] [] [4] false [
       (none, .asg 4 (.c (.int .i64 (-1))) .copy)])
     (.ret [4]))))⟩
def F802 : PFunc :=
 ⟨[false, false], [.tmp 4],
  (.seq
   (.region [] [] [0, 1] false [
     (none, .asg 4 (.c (.bool false)) .copy)])
   (.seq
    (.region [(6, 1, false), (5, 0, false)] [] [4] false [
      (none, .mv 5 (.v 0)),
      (none, .mv 6 (.v 1)),
      (none, .call (some 7) 824 false [((.v 5), false), ((.v 6), false)]),
      (none, .bin 8 .geq (.v 7) (.c (.int .i64 0))),
      (none, .asg 4 (.v 8) .copy)])
    (.ret [4])))⟩
def F218 : PFunc :=
 ⟨[false], [.tmp 2],
  (.seq
   (.region [] [] [0] false [
     (none, .asg 2 (.c (.bool false)) .copy)])
   (.seq
    (.region [(7, 0, false), (3, 0, false)] [] [2] false [
      (none, .mv 3 (.v 0)),
      (none, .len 4 false (.v 3)),
      (none, .bin 5 .leq (.v 4) (.c (.int .i64 8))),
      (none, .mv 6 (.v 5)),
      (some (6, true), .mv 7 (.v 0)),
      (some (6, true), .call (some 8) 802 false [((.v 7), false), ((.c (.fn 219 [])), false)]),
      (some (6, true), .un 9 .not (.v 8)),
      (none, .pick 10 (.v 6) (.v 9) (.c (.bool false))),
      (none, .asg 2 (.v 10) .copy)])
    (.ret [2])))⟩
def F109 : PFunc :=
 ⟨[false, false, false], [.tmp 6, .tmp 7],
  (.seq
   (.region [] [] [0, 1, 2] false [
     (none, .asg 6 (.c (.sl true 1 [])) .copy),
     (none, .asg 7 (.c (.int .i64 0)) .copy)])
   (.seq
    (.seq
     (.region [(12, 0, false)] [] [0, 1, 2, 8] false [
       (none, .mv 12 (.v 0)),
       (none, .call (some 13) 218 false [((.v 12), false)]),
       (none, .mv 14 (.v 1)),
       (none, .mv 15 (.v 2)),
       (none, .call (some 16) 270 false [((.v 13), false), ((.v 14), false), ((.v 15), false), ((.c (.sl false 1 [])), false)]),
       (none, .asg 8 (.v 16) .copy)])
     (.seq
      (.region [] [] [0, 1, 2, 8, 18] false [
        (none, .mv 17 (.v 8)),
        (none, .bin 18 .neq (.v 17) (.c (.int .i64 0)))])
      (.cond (.v 18)
       (.seq
        (.region [] [] [6, 7] false [
          (none, .mv 19 (.v 8)),
          (none, .asg 6 (.c (.sl true 1 [])) .copy),
          (none, .asg 7 (.v 19) .copy)])
        (.ret [6, 7]))
       (.skip [0, 1, 2]))))
    (.seq
     (.region [] [] [0, 1, 2, 9] false [
       (none, .mksl 20 1 (.int .i64 0) 0 []),
       (none, .asg 9 (.v 20) .move)])
     (.seq
      (.seq
       (.region [(21, 0, false)] [] [0, 1, 2, 9, 21, 22, 23] false [
         (none, .mv 21 (.v 0)),
         (none, .len 22 false (.v 21)),
         (none, .mv 23 (.c (.int .i64 0)))])
       (.block 0
        (.loop
         (.seq
          (.region [(21, 0, false)] [] [0, 1, 2, 9, 21, 22, 23, 24] false [
            (none, .bin 24 .lss (.v 23) (.v 22))])
          (.seq
           (.cond (.v 24)
            (.skip [0, 1, 2, 9, 21, 22, 23])
            (.exit 0 [9]))
           (.seq
            (.block 1
             (.seq
              (.region [(26, 0, false), (21, 0, false)] [] [0, 1, 2, 9, 10, 11, 21, 22, 23] false [
                (none, .mv 25 (.v 23)),
                (none, .iadr 26 3 (.v 21) (.v 23)),
                (none, .load 27 true 3 (.v 26) none),
                (none, .new 11 (.agg [(.int .i64 0), (.int .i64 0), (.int .i64 0)])),
                (none, .asg 10 (.v 25) .copy),
                (none, .store 3 (.v 11) (.v 27) .copy)])
              (.seq
               (.region [(21, 0, false)] [] [0, 1, 2, 9, 10, 21, 22, 23, 31] false [
                 (none, .load 28 true 3 (.v 11) none),
                 (none, .mv 29 (.v 1)),
                 (none, .mv 30 (.v 2)),
                 (none, .call (some 31) 314 false [((.v 28), false), ((.v 29), false), ((.v 30), false)])])
               (.cond (.v 31)
                (.region [(32, 9, false), (21, 0, false)] [] [0, 1, 2, 9, 21, 22, 23] false [
                  (none, .mv 32 (.v 9)),
                  (none, .mv 33 (.v 10)),
                  (none, .mksl 34 1 (.int .i64 0) 1 [(0, (.v 33), .copy)]),
                  (none, .app 35 1 (.v 32) (.v 34) .move),
                  (none, .asg 9 (.v 35) .move)])
                (.skip [0, 1, 2, 9, 21, 22, 23])))))
            (.region [(21, 0, false)] [] [0, 1, 2, 9, 21, 22, 23] false [
              (none, .bin 36 .add (.v 23) (.c (.int .i64 1))),
              (none, .mv 23 (.v 36))])))))))
      (.seq
       (.region [(37, 9, false)] [] [6, 7] false [
         (none, .mv 37 (.v 9)),
         (none, .asg 6 (.v 37) .move),
         (none, .asg 7 (.c (.int .i64 0)) .copy)])
       (.ret [6, 7]))))))⟩
def F128 : PFunc :=
 ⟨[false, false, false], [.tmp 6, .tmp 7],
  (.seq
   (.region [] [] [1, 2, 3] false [
     (none, .box 3 (.v 0) .copy),
     (none, .asg 6 (.c (.sl true 1 [])) .copy),
     (none, .asg 7 (.c (.int .i64 0)) .copy)])
   (.seq
    (.seq
     (.region [(15, 2, false)] [] [1, 2, 3, 8] false [
       (none, .load 12 true 3 (.v 3) none),
       (none, .call (some 13) 322 false [((.v 12), false)]),
       (none, .mv 14 (.v 1)),
       (none, .mv 15 (.v 2)),
       (none, .call (some 16) 270 false [((.v 13), false), ((.v 14), false), ((.c (.int .i64 1)), false), ((.v 15), false)]),
       (none, .asg 8 (.v 16) .copy)])
     (.seq
      (.region [] [] [1, 2, 3, 8, 18] false [
        (none, .mv 17 (.v 8)),
        (none, .bin 18 .neq (.v 17) (.c (.int .i64 0)))])
      (.cond (.v 18)
       (.seq
        (.region [] [] [6, 7] false [
          (none, .mv 19 (.v 8)),
          (none, .asg 6 (.c (.sl true 1 [])) .copy),
          (none, .asg 7 (.v 19) .copy)])
        (.ret [6, 7]))
       (.skip [1, 2, 3]))))
    (.seq
     (.region [] [] [1, 2, 3, 9] false [
       (none, .mksl 20 1 (.int .i64 0) 0 []),
       (none, .asg 9 (.v 20) .move)])
     (.seq
      (.seq
       (.region [(21, 2, false)] [] [1, 2, 3, 9, 21, 22, 23] false [
         (none, .mv 21 (.v 2)),
         (none, .len 22 false (.v 21)),
         (none, .mv 23 (.c (.int .i64 0)))])
       (.block 0
        (.loop
         (.seq
          (.region [(21, 2, false)] [] [1, 2, 3, 9, 21, 22, 23, 24] false [
            (none, .bin 24 .lss (.v 23) (.v 22))])
          (.seq
           (.cond (.v 24)
            (.skip [1, 2, 3, 9, 21, 22, 23])
            (.exit 0 [9]))
           (.seq
            (.block 1
             (.seq
              (.region [(26, 2, false), (21, 2, false)] [] [1, 2, 3, 9, 10, 11, 21, 22, 23] false [
                (none, .mv 25 (.v 23)),
                (none, .iadr 26 1 (.v 21) (.v 23)),
                (none, .load 27 false 1 (.v 26) none),
                (none, .asg 10 (.v 25) .copy),
                (none, .asg 11 (.v 27) .copy)])
              (.seq
               (.region [(21, 2, false)] [] [1, 2, 3, 9, 10, 21, 22, 23, 31] false [
                 (none, .load 28 true 3 (.v 3) none),
                 (none, .mv 29 (.v 1)),
                 (none, .mv 30 (.v 11)),
                 (none, .call (some 31) 314 false [((.v 28), false), ((.v 29), false), ((.v 30), false)])])
               (.cond (.v 31)
                (.region [(32, 9, false), (21, 2, false)] [] [1, 2, 3, 9, 21, 22, 23] false [
                  (none, .mv 32 (.v 9)),
                  (none, .mv 33 (.v 10)),
                  (none, .mksl 34 1 (.int .i64 0) 1 [(0, (.v 33), .copy)]),
                  (none, .app 35 1 (.v 32) (.v 34) .move),
                  (none, .asg 9 (.v 35) .move)])
                (.skip [1, 2, 3, 9, 21, 22, 23])))))
            (.region [(21, 2, false)] [] [1, 2, 3, 9, 21, 22, 23] false [
              (none, .bin 36 .add (.v 23) (.c (.int .i64 1))),
              (none, .mv 23 (.v 36))])))))))
      (.seq
       (.region [(37, 9, false)] [] [6, 7] false [
         (none, .mv 37 (.v 9)),
         (none, .asg 6 (.v 37) .move),
         (none, .asg 7 (.c (.int .i64 0)) .copy)])
       (.ret [6, 7]))))))⟩
def F194 : PFunc :=
 ⟨[false, false, false], [.tmp 6, .tmp 7],
  (.seq
   (.region [] [] [1, 2, 3] false [
     (none, .box 3 (.v 0) .copy),
     (none, .asg 6 (.c (.bool false)) .copy),
     (none, .asg 7 (.c (.int .i64 0)) .copy)])
   (.seq
    (.seq
     (.region [] [] [1, 2, 3, 8] false [
       (none, .load 9 true 3 (.v 3) none),
       (none, .call (some 10) 322 false [((.v 9), false)]),
       (none, .mv 11 (.v 1)),
       (none, .mv 12 (.v 2)),
       (none, .call (some 13) 270 false [((.v 10), false), ((.v 11), false), ((.v 12), false), ((.c (.sl false 1 [])), false)]),
       (none, .asg 8 (.v 13) .copy)])
     (.seq
      (.region [] [] [1, 2, 3, 8, 15] false [
        (none, .mv 14 (.v 8)),
        (none, .bin 15 .neq (.v 14) (.c (.int .i64 0)))])
      (.cond (.v 15)
       (.seq
        (.region [] [] [6, 7] false [
          (none, .mv 16 (.v 8)),
          (none, .asg 6 (.c (.bool false)) .copy),
          (none, .asg 7 (.v 16) .copy)])
        (.ret [6, 7]))
       (.skip [1, 2, 3]))))
    (.seq
     (.region [] [] [6, 7] false [
       (none, .load 17 true 3 (.v 3) none),
       (none, .mv 18 (.v 1)),
       (none, .mv 19 (.v 2)),
       (none, .call (some 20) 314 false [((.v 17), false), ((.v 18), false), ((.v 19), false)]),
       (none, .asg 6 (.v 20) .copy),
       (none, .asg 7 (.c (.int .i64 0)) .copy)])
     (.ret [6, 7]))))⟩
def F398 : PFunc :=
 ⟨[false], [.tmp 2],
  (.seq
   (.region [] [] [0] false [
     (none, .asg 2 (.c (.bool false)) .copy)])
   (.seq
    (.region [(3, 0, false)] [] [2] false [
      (none, .mv 3 (.v 0)),
      (none, .len 4 false (.v 3)),
      (none, .bin 5 .gtr (.v 4) (.c (.int .i64 4096))),
      (none, .asg 2 (.v 5) .copy)])
    (.ret [2])))⟩
def F399 : PFunc :=
 ⟨[false, false], [.tmp 4],
  (.seq
   (.region [] [] [0, 1] false [
     (none, .asg 4 (.c (.bool false)) .copy)])
   (.seq
    (.seq
     (.region [] [] [0, 1, 5] false [
       (none, .asg 5 (.c (.int .i64 0)) .copy)])
     (.block 0
      (.loop
       (.seq
        (.seq
         (.region [(7, 0, false)] [] [0, 1, 5, 9] false [
           (none, .mv 6 (.v 5)),
           (none, .mv 7 (.v 0)),
           (none, .len 8 false (.v 7)),
           (none, .bin 9 .lss (.v 6) (.v 8))])
         (.cond (.v 9)
          (.skip [0, 1, 5])
          (.exit 0 [])))
        (.seq
         (.block 1
          (.seq
           (.region [(14, 0, false), (12, 0, false)] [] [0, 1, 5, 17] false [
             (none, .mv 12 (.v 0)),
             (none, .mv 13 (.v 5)),
             (none, .iadr 14 1 (.v 12) (.v 13)),
             (none, .load 15 false 1 (.v 14) none),
             (none, .mv 16 (.v 1)),
             (none, .bin 17 .eql (.v 15) (.v 16))])
           (.cond (.v 17)
            (.seq
             (.region [] [] [4] false [
               (none, .asg 4 (.c (.bool true)) .copy)])
             (.ret [4]))
            (.skip [0, 1, 5]))))
         (.region [] [] [0, 1, 5] false [
           (none, .mv 10 (.v 5)),
           (none, .bin 11 .add (.v 10) (.c (.int .i64 1))),
           (none, .asg 5 (.v 11) .copy)]))))))
    (.seq
     (.region [] [] [4] false [
       (none, .asg 4 (.c (.bool false)) .copy)])
     (.ret [4]))))⟩
def F400 : PFunc :=
 ⟨[false, false], [.tmp 4],
  (.seq
   (.region [] [] [0, 1] false [
     (none, .asg 4 (.c (.bool false)) .copy)])
   (.seq
    (.seq
     (.region [(8, 1, false), (6, 0, false)] [] [0, 1, 10] false [
       (none, .mv 6 (.v 0)),
       (none, .len 7 false (.v 6)),
       (none, .mv 8 (.v 1)),
       (none, .len 9 false (.v 8)),
       (none, .bin 10 .neq (.v 7) (.v 9))])
     (.cond (.v 10)
      (.seq
       (.region [] [] [4] false [
         (none, .asg 4 (.c (.bool false)) .copy)])
       (.ret [4]))
      (.skip [0, 1])))
    (.seq
     (.seq
      (.region [] [] [0, 1, 5] false [
        (none, .asg 5 (.c (.int .i64 0)) .copy)])
      (.block 0
       (.loop
        (.seq
         (.seq
          (.region [(12, 0, false)] [] [0, 1, 5, 14] false [
            (none, .mv 11 (.v 5)),
            (none, .mv 12 (.v 0)),
            (none, .len 13 false (.v 12)),
            (none, .bin 14 .lss (.v 11) (.v 13))])
          (.cond (.v 14)
           (.skip [0, 1, 5])
           (.exit 0 [])))
         (.seq
          (.block 1
           (.seq
            (.region [(23, 1, false), (21, 1, false), (19, 0, false), (17, 0, false)] [] [0, 1, 5, 25] true [
              (none, .mv 17 (.v 0)),
              (none, .mv 18 (.v 5)),
              (none, .iadr 19 1 (.v 17) (.v 18)),
              (none, .load 20 false 1 (.v 19) none),
              (none, .mv 21 (.v 1)),
              (none, .mv 22 (.v 5)),
              (none, .iadr 23 1 (.v 21) (.v 22)),
              (none, .load 24 false 1 (.v 23) none),
              (none, .bin 25 .neq (.v 20) (.v 24))])
            (.cond (.v 25)
             (.seq
              (.region [] [] [4] false [
                (none, .asg 4 (.c (.bool false)) .copy)])
              (.ret [4]))
             (.skip [0, 1, 5]))))
          (.region [] [] [0, 1, 5] false [
            (none, .mv 15 (.v 5)),
            (none, .bin 16 .add (.v 15) (.c (.int .i64 1))),
            (none, .asg 5 (.v 16) .copy)]))))))
     (.seq
      (.region [] [] [4] false [
        (none, .asg 4 (.c (.bool true)) .copy)])
      (.ret [4])))))⟩
def F603 : PFunc :=
 ⟨[false], [.tmp 2],
  (.seq
   (.region [] [] [0] false [
     (none, .asg 2 (.c .nilp) .copy)])
   (.seq
    (.region [(3, 0, false)] [] [2] false [
      (none, .mv 3 (.v 0)),
      (none, .build 4 [(.sl false 1 []), (.int .i64 0), (.int .u64 0)] [(0, 1, (.v 3), .move)]),
      (none, .box 5 (.v 4) .move),
      (none, .asg 2 (.v 5) .move)])
    (.ret [2])))⟩
def F5 : PFunc :=
 ⟨[true], [.tmp 2],
  (.seq
   (.region [] [] [0] false [
     (none, .asg 2 (.c (.int .i64 0)) .copy)])
   (.seq
    (.region [] [] [0, 3] false [
      (none, .asg 3 (.c (.int .i64 0)) .copy)])
    (.seq
     (.seq
      (.region [(11, 0, true), (10, 0, false), (9, 0, false), (8, 0, false), (6, 0, false), (5, 0, false), (4, 0, false)] [] [0, 3, 13] true [
        (none, .mvr 4 0),
        (none, .nchk 5 (.v 4)),
        (none, .fadr 6 1 1 (.v 5)),
        (none, .load 7 false 1 (.v 6) none),
        (none, .mvr 8 0),
        (none, .nchk 9 (.v 8)),
        (none, .fadr 10 0 1 (.v 9)),
        (none, .load 11 false 1 (.v 10) none),
        (none, .len 12 false (.v 11)),
        (none, .bin 13 .lss (.v 7) (.v 12))])
      (.cond (.v 13)
       (.region [(22, 0, true), (20, 0, false), (19, 0, false), (18, 0, false), (17, 0, true), (16, 0, false), (15, 0, false), (14, 0, false)] [] [0, 3] true [
         (none, .mvr 14 0),
         (none, .nchk 15 (.v 14)),
         (none, .fadr 16 0 1 (.v 15)),
         (none, .load 17 false 1 (.v 16) none),
         (none, .mvr 18 0),
         (none, .nchk 19 (.v 18)),
         (none, .fadr 20 1 1 (.v 19)),
         (none, .load 21 false 1 (.v 20) none),
         (none, .iadr 22 1 (.v 17) (.v 21)),
         (none, .load 23 false 1 (.v 22) none),
         (none, .conv 24 .i64 (.v 23)),
         (none, .asg 3 (.v 24) .copy)])
       (.skip [0, 3])))
     (.seq
      (.region [(31, 0, false), (30, 0, false), (27, 0, false), (26, 0, false), (25, 0, false)] [] [0, 3] false [
        (none, .mv 25 (.v 0)),
        (none, .nchk 26 (.v 25)),
        (none, .fadr 27 1 1 (.v 26)),
        (none, .load 28 false 1 (.v 27) none),
        (none, .bin 29 .add (.v 28) (.c (.int .i64 1))),
        (none, .nchk 30 (.v 25)),
        (none, .fadr 31 1 1 (.v 30)),
        (none, .store 1 (.v 31) (.v 29) .copy)])
      (.seq
       (.region [(43, 0, false), (42, 0, false), (35, 0, false), (34, 0, false), (33, 0, false), (32, 0, false)] [] [0, 3] false [
         (none, .mv 32 (.v 0)),
         (none, .mv 33 (.v 0)),
         (none, .nchk 34 (.v 33)),
         (none, .fadr 35 2 1 (.v 34)),
         (none, .load 36 false 1 (.v 35) none),
         (none, .bin 37 .mul (.v 36) (.c (.int .u64 6364136223846793005))),
         (none, .mv 38 (.v 3)),
         (none, .conv 39 .u64 (.v 38)),
         (none, .bin 40 .add (.v 37) (.v 39)),
         (none, .bin 41 .add (.v 40) (.c (.int .u64 1442695040888963407))),
         (none, .nchk 42 (.v 32)),
         (none, .fadr 43 2 1 (.v 42)),
         (none, .store 1 (.v 43) (.v 41) .copy)])
       (.seq
        (.seq
         (.region [(51, 0, true), (50, 0, false), (49, 0, false), (48, 0, false), (46, 0, false), (45, 0, false), (44, 0, false)] [] [0, 3, 53] true [
           (none, .mvr 44 0),
           (none, .nchk 45 (.v 44)),
           (none, .fadr 46 1 1 (.v 45)),
           (none, .load 47 false 1 (.v 46) none),
           (none, .mvr 48 0),
           (none, .nchk 49 (.v 48)),
           (none, .fadr 50 0 1 (.v 49)),
           (none, .load 51 false 1 (.v 50) none),
           (none, .len 52 false (.v 51)),
           (none, .bin 53 .leq (.v 47) (.v 52))])
         (.cond (.v 53)
          (.seq
           (.region [] [] [0, 2] false [
             (none, .mv 54 (.v 3)),
             (none, .asg 2 (.v 54) .copy)])
           (.ret [0, 2]))
          (.skip [0])))
        (.seq
         (.region [(57, 0, false), (56, 0, false), (55, 0, false)] [] [0, 2] false [
           (none, .mv 55 (.v 0)),
           (none, .nchk 56 (.v 55)),
           (none, .fadr 57 2 1 (.v 56)),
           (none, .load 58 false 1 (.v 57) none),
           (none, .bin 59 .shr (.v 58) (.c (.int .u64 40))),
           (none, .bin 60 .and (.v 59) (.c (.int .u64 255))),
           (none, .conv 61 .i64 (.v 60)),
           (none, .asg 2 (.v 61) .copy)])
         (.ret [0, 2]))))))))⟩
def F7 : PFunc :=
 ⟨[true, false], [.tmp 4],
  (.seq
   (.region [] [] [0, 1] false [
     (none, .asg 4 (.c (.int .i64 0)) .copy)])
   (.seq
    (.seq
     (.region [] [] [0, 1, 7] false [
       (none, .mv 6 (.v 1)),
       (none, .bin 7 .leq (.v 6) (.c (.int .i64 1)))])
     (.cond (.v 7)
      (.seq
       (.region [] [] [0, 4] false [
         (none, .asg 4 (.c (.int .i64 0)) .copy)])
       (.ret [0, 4]))
      (.skip [0, 1])))
    (.seq
     (.region [(8, 0, false)] [] [0, 1, 5] false [
       (none, .mv 8 (.v 0)),
       (none, .call (some 9) 5 true [((.v 8), true)]),
       (none, .asg 5 (.v 9) .copy)])
     (.seq
      (.seq
       (.region [] [] [0, 1, 5, 11] false [
         (none, .mv 10 (.v 1)),
         (none, .bin 11 .gtr (.v 10) (.c (.int .i64 200)))])
       (.cond (.v 11)
        (.region [(14, 0, false)] [] [0, 1, 5] false [
          (none, .mv 12 (.v 5)),
          (none, .bin 13 .mul (.v 12) (.c (.int .i64 256))),
          (none, .mv 14 (.v 0)),
          (none, .call (some 15) 5 true [((.v 14), true)]),
          (none, .bin 16 .add (.v 13) (.v 15)),
          (none, .asg 5 (.v 16) .copy)])
        (.skip [0, 1, 5])))
      (.seq
       (.region [] [] [0, 4] false [
         (none, .mv 17 (.v 5)),
         (none, .mv 18 (.v 1)),
         (none, .bin 19 .rem (.v 17) (.v 18)),
         (none, .asg 4 (.v 19) .copy)])
       (.ret [0, 4]))))))⟩
def F6 : PFunc :=
 ⟨[true, false], [.tmp 4],
  (.seq
   (.region [] [] [0, 1] false [
     (none, .asg 4 (.c (.bool false)) .copy)])
   (.seq
    (.region [(5, 0, false)] [] [0, 4] false [
      (none, .mv 5 (.v 0)),
      (none, .mv 6 (.v 1)),
      (none, .call (some 7) 7 true [((.v 5), true), ((.v 6), false)]),
      (none, .bin 8 .eql (.v 7) (.c (.int .i64 0))),
      (none, .asg 4 (.v 8) .copy)])
    (.ret [0, 4])))⟩
def F679 : PFunc :=
 ⟨[true], [.cell 2 true 3],
  (.seq
   (.region [] [] [0, 2] false [
     (none, .new 2 (.agg [(.int .i64 0), (.int .i64 0), (.int .i64 0)]))])
   (.seq
    (.region [(8, 0, false), (4, 0, false)] [] [0, 2, 3] false [
      (none, .mv 4 (.v 0)),
      (none, .call (some 5) 7 true [((.v 4), true), ((.c (.int .i64 20)), false)]),
      (none, .bin 6 .mul (.c (.int .i64 500)) (.v 5)),
      (none, .bin 7 .add (.c (.int .i64 3000)) (.v 6)),
      (none, .mv 8 (.v 0)),
      (none, .call (some 9) 7 true [((.v 8), true), ((.c (.int .i64 20)), false)]),
      (none, .bin 10 .mul (.c (.int .i64 100)) (.v 9)),
      (none, .bin 11 .add (.c (.int .i64 800)) (.v 10)),
      (none, .build 12 [(.int .i64 0), (.int .i64 0), (.int .i64 0)] [(0, 1, (.v 7), .copy), (1, 1, (.v 11), .copy)]),
      (none, .new 3 (.agg [(.int .i64 0), (.int .i64 0), (.int .i64 0)])),
      (none, .store 3 (.v 3) (.v 12) .copy)])
    (.seq
     (.region [(19, 3, false), (15, 0, false), (13, 3, false)] [] [0, 2, 3] true [
       (none, .fadr 13 1 1 (.v 3)),
       (none, .load 14 false 1 (.v 13) none),
       (none, .mvr 15 0),
       (none, .call (some 16) 7 true [((.v 15), true), ((.c (.int .i64 20)), false)]),
       (none, .bin 17 .mul (.c (.int .i64 100)) (.v 16)),
       (none, .bin 18 .add (.v 14) (.v 17)),
       (none, .fadr 19 2 1 (.v 3)),
       (none, .store 1 (.v 19) (.v 18) .copy)])
     (.seq
      (.region [] [] [0, 2] false [
        (none, .load 20 true 3 (.v 3) none),
        (none, .store 3 (.v 2) (.v 20) .copy)])
      (.ret [0, 2])))))⟩
def F4 : PFunc :=
 ⟨[true, false], [.tmp 4],
  (.seq
   (.region [] [] [0, 1] false [
     (none, .asg 4 (.c (.int .i64 0)) .copy)])
   (.seq
    (.region [(10, 1, false), (7, 1, false), (6, 0, false), (5, 1, false)] [] [0, 4] false [
      (none, .mv 5 (.v 1)),
      (none, .mv 6 (.v 0)),
      (none, .mv 7 (.v 1)),
      (none, .len 8 false (.v 7)),
      (none, .call (some 9) 7 true [((.v 6), true), ((.v 8), false)]),
      (none, .iadr 10 1 (.v 5) (.v 9)),
      (none, .load 11 false 1 (.v 10) none),
      (none, .asg 4 (.v 11) .copy)])
    (.ret [0, 4])))⟩
def F683 : PFunc :=
 ⟨[true, true], [],
  (.seq
   (.region [(4, 0, false)] [] [0, 1, 5] false [
     (none, .mv 4 (.v 0)),
     (none, .call (some 5) 7 true [((.v 4), true), ((.c (.int .i64 3)), false)])])
   (.block 0
    (.seq
     (.region [] [] [0, 1, 5, 6] false [
       (none, .bin 7 .eql (.v 5) (.c (.int .i64 0))),
       (none, .asg 6 (.v 7) .copy)])
     (.cond (.v 6)
      (.region [(13, 1, false), (12, 1, false), (9, 0, false), (8, 1, false)] [] [0, 1] false [
        (none, .mv 8 (.v 1)),
        (none, .mv 9 (.v 0)),
        (none, .mksl 10 1 (.int .i64 0) 6 [(0, (.c (.int .i64 (-1))), .copy), (1, (.c (.int .i64 0)), .copy), (2, (.c (.int .i64 1)), .copy), (3, (.c (.int .i64 100000)), .copy), (4, (.c (.int .i64 100001)), .copy), (5, (.c (.int .i64 (-9223372036854775808))), .copy)]),
        (none, .call (some 11) 4 true [((.v 9), true), ((.v 10), false)]),
        (none, .nchk 12 (.v 8)),
        (none, .fadr 13 0 1 (.v 12)),
        (none, .store 1 (.v 13) (.v 11) .copy)])
      (.seq
       (.region [] [] [0, 1, 5, 14] false [
         (none, .bin 15 .eql (.v 5) (.c (.int .i64 1))),
         (none, .asg 14 (.v 15) .copy)])
       (.cond (.v 14)
        (.region [(30, 1, false), (29, 1, false), (24, 1, false), (23, 1, false), (22, 1, false), (20, 1, false), (19, 1, false), (18, 1, false), (17, 0, false), (16, 1, false)] [] [0, 1] true [
          (none, .mvr 16 1),
          (none, .mvr 17 0),
          (none, .mvr 18 1),
          (none, .nchk 19 (.v 18)),
          (none, .fadr 20 2 1 (.v 19)),
          (none, .load 21 false 1 (.v 20) none),
          (none, .mvr 22 1),
          (none, .nchk 23 (.v 22)),
          (none, .fadr 24 2 1 (.v 23)),
          (none, .load 25 false 1 (.v 24) none),
          (none, .bin 26 .add (.v 25) (.c (.int .i64 1))),
          (none, .mksl 27 1 (.int .i64 0) 5 [(0, (.c (.int .i64 (-1))), .copy), (1, (.c (.int .i64 0)), .copy), (2, (.c (.int .i64 1)), .copy), (3, (.v 21), .copy), (4, (.v 26), .copy)]),
          (none, .call (some 28) 4 true [((.v 17), true), ((.v 27), false)]),
          (none, .nchk 29 (.v 16)),
          (none, .fadr 30 1 1 (.v 29)),
          (none, .store 1 (.v 30) (.v 28) .copy)])
        (.seq
         (.region [] [] [0, 1, 31] false [
           (none, .bin 32 .eql (.v 5) (.c (.int .i64 2))),
           (none, .asg 31 (.v 32) .copy)])
         (.cond (.v 31)
          (.region [(42, 1, false), (41, 1, false), (37, 1, false), (36, 1, false), (35, 1, false), (34, 0, false), (33, 1, false)] [] [0, 1] false [
            (none, .mv 33 (.v 1)),
            (none, .mv 34 (.v 0)),
            (none, .mv 35 (.v 1)),
            (none, .nchk 36 (.v 35)),
            (none, .fadr 37 1 1 (.v 36)),
            (none, .load 38 false 1 (.v 37) none),
            (none, .mksl 39 1 (.int .i64 0) 5 [(0, (.c (.int .i64 (-1))), .copy), (1, (.c (.int .i64 0)), .copy), (2, (.v 38), .copy), (3, (.c (.int .i64 100000)), .copy), (4, (.c (.int .i64 100001)), .copy)]),
            (none, .call (some 40) 4 true [((.v 34), true), ((.v 39), false)]),
            (none, .nchk 41 (.v 33)),
            (none, .fadr 42 2 1 (.v 41)),
            (none, .store 1 (.v 42) (.v 40) .copy)])
          (.skip [0, 1])))))))))⟩
def F672 : PFunc :=
 ⟨[true], [.tmp 2],
  (.seq
   (.region [] [] [0] false [
     (none, .asg 2 (.c (.sl true 3 [])) .copy)])
   (.seq
    (.region [] [] [0, 3] false [
      (none, .mksl 6 3 (.agg [(.int .i64 0), (.int .i64 0), (.int .i64 0)]) 0 []),
      (none, .asg 3 (.v 6) .move)])
    (.seq
     (.region [(7, 0, false)] [] [0, 3, 4] false [
       (none, .mv 7 (.v 0)),
       (none, .call (some 8) 7 true [((.v 7), true), ((.c (.int .i64 6)), false)]),
       (none, .asg 4 (.v 8) .copy)])
     (.seq
      (.seq
       (.region [(9, 0, false)] [] [0, 3, 4, 10] false [
         (none, .mv 9 (.v 0)),
         (none, .call (some 10) 6 true [((.v 9), true), ((.c (.int .i64 20)), false)])])
       (.cond (.v 10)
        (.region [(11, 0, false)] [] [0, 3, 4] false [
          (none, .mv 11 (.v 0)),
          (none, .call (some 12) 7 true [((.v 11), true), ((.c (.int .i64 2)), false)]),
          (none, .bin 13 .add (.c (.int .i64 8)) (.v 12)),
          (none, .asg 4 (.v 13) .copy)])
        (.skip [0, 3, 4])))
      (.seq
       (.seq
        (.region [] [] [0, 3, 4, 5] false [
          (none, .mv 14 (.v 4)),
          (none, .asg 5 (.v 14) .copy)])
        (.block 0
         (.loop
          (.seq
           (.seq
            (.region [] [] [0, 3, 4, 5, 16] false [
              (none, .mv 15 (.v 5)),
              (none, .bin 16 .gtr (.v 15) (.c (.int .i64 0)))])
            (.cond (.v 16)
             (.skip [0, 3, 4, 5])
             (.exit 0 [0, 3, 4])))
           (.seq
            (.block 1
             (.region [(20, 0, false), (19, 3, false)] [] [0, 3, 4, 5] false [
               (none, .mv 19 (.v 3)),
               (none, .mv 20 (.v 0)),
               (none, .call (some 21) 679 true [((.v 20), true)]),
               (none, .mksl 22 3 (.agg [(.int .i64 0), (.int .i64 0), (.int .i64 0)]) 1 [(0, (.v 21), .copy)]),
               (none, .app 23 3 (.v 19) (.v 22) .move),
               (none, .asg 3 (.v 23) .move)]))
            (.region [] [] [0, 3, 4, 5] false [
              (none, .mv 17 (.v 5)),
              (none, .bin 18 .sub (.v 17) (.c (.int .i64 1))),
              (none, .asg 5 (.v 18) .copy)]))))))
       (.seq
        (.seq
         (.region [(27, 0, false)] [] [0, 3, 29] false [
           (none, .mv 24 (.v 4)),
           (none, .bin 25 .gtr (.v 24) (.c (.int .i64 0))),
           (none, .mv 26 (.v 25)),
           (some (26, true), .mv 27 (.v 0)),
           (some (26, true), .call (some 28) 6 true [((.v 27), true), ((.c (.int .i64 10)), false)]),
           (none, .pick 29 (.v 26) (.v 28) (.c (.bool false)))])
         (.cond (.v 29)
          (.region [(32, 3, false), (31, 3, false), (30, 0, false)] [] [0, 3] false [
            (none, .mv 30 (.v 0)),
            (none, .mv 31 (.v 3)),
            (none, .iadr 32 3 (.v 31) (.c (.int .i64 0))),
            (none, .calle (some 33) 683 30 32)])
          (.skip [0, 3])))
        (.seq
         (.region [(34, 3, false)] [] [0, 2] false [
           (none, .mv 34 (.v 3)),
           (none, .asg 2 (.v 34) .move)])
         (.ret [0, 2]))))))))⟩
def F673 : PFunc :=
 ⟨[true], [.tmp 2],
  (.seq
   (.region [] [] [0] false [
     (none, .asg 2 (.c (.int .i64 0)) .copy)])
   (.seq
    (.seq
     (.region [(3, 0, false)] [] [0, 4] false [
       (none, .mv 3 (.v 0)),
       (none, .call (some 4) 6 true [((.v 3), true), ((.c (.int .i64 10)), false)])])
     (.cond (.v 4)
      (.seq
       (.region [(5, 0, false)] [] [0, 2] false [
         (none, .mv 5 (.v 0)),
         (none, .mksl 6 1 (.int .i64 0) 5 [(0, (.c (.int .i64 (-1))), .copy), (1, (.c (.int .i64 0)), .copy), (2, (.c (.int .i64 1)), .copy), (3, (.c (.int .i64 2000)), .copy), (4, (.c (.int .i64 2001)), .copy)]),
         (none, .call (some 7) 4 true [((.v 5), true), ((.v 6), false)]),
         (none, .asg 2 (.v 7) .copy)])
       (.ret [0, 2]))
      (.skip [0])))
    (.seq
     (.region [(8, 0, false)] [] [0, 2] false [
       (none, .mv 8 (.v 0)),
       (none, .call (some 9) 7 true [((.v 8), true), ((.c (.int .i64 20)), false)]),
       (none, .bin 10 .mul (.c (.int .i64 25)) (.v 9)),
       (none, .bin 11 .add (.c (.int .i64 100)) (.v 10)),
       (none, .asg 2 (.v 11) .copy)])
     (.ret [0, 2]))))⟩
def F674 : PFunc :=
 ⟨[true], [.tmp 2],
  (.seq
   (.region [] [] [0] false [
     (none, .asg 2 (.c (.int .i64 0)) .copy)])
   (.seq
    (.seq
     (.region [(3, 0, false)] [] [0, 4] false [
       (none, .mv 3 (.v 0)),
       (none, .call (some 4) 6 true [((.v 3), true), ((.c (.int .i64 10)), false)])])
     (.cond (.v 4)
      (.seq
       (.region [(5, 0, false)] [] [0, 2] false [
         (none, .mv 5 (.v 0)),
         (none, .mksl 6 1 (.int .i64 0) 5 [(0, (.c (.int .i64 (-1))), .copy), (1, (.c (.int .i64 0)), .copy), (2, (.c (.int .i64 1)), .copy), (3, (.c (.int .i64 200)), .copy), (4, (.c (.int .i64 201)), .copy)]),
         (none, .call (some 7) 4 true [((.v 5), true), ((.v 6), false)]),
         (none, .asg 2 (.v 7) .copy)])
       (.ret [0, 2]))
      (.skip [0])))
    (.seq
     (.region [(8, 0, false)] [] [0, 2] false [
       (none, .mv 8 (.v 0)),
       (none, .mksl 9 1 (.int .i64 0) 3 [(0, (.c (.int .i64 75)), .copy), (1, (.c (.int .i64 80)), .copy), (2, (.c (.int .i64 100)), .copy)]),
       (none, .call (some 10) 4 true [((.v 8), true), ((.v 9), false)]),
       (none, .asg 2 (.v 10) .copy)])
     (.ret [0, 2]))))⟩
def F476 : PFunc :=
 ⟨[false], [.tmp 2, .tmp 3, .tmp 4],
  (.seq
   (.region [] [] [0] false [
     (none, .asg 2 (.c (.sl true 3 [])) .copy),
     (none, .asg 3 (.c (.int .i64 0)) .copy),
     (none, .asg 4 (.c (.int .i64 0)) .copy)])
   (.seq
    (.region [(8, 0, false)] [] [5] false [
      (none, .mv 8 (.v 0)),
      (none, .call (some 9) 603 true [((.v 8), false)]),
      (none, .asg 5 (.v 9) .move)])
    (.seq
     (.region [(10, 5, false)] [] [5, 6] false [
       (none, .mv 10 (.v 5)),
       (none, .call (some 11) 672 true [((.v 10), true)]),
       (none, .asg 6 (.v 11) .move)])
     (.seq
      (.region [(12, 5, false)] [] [5, 6, 7] false [
        (none, .mv 12 (.v 5)),
        (none, .call (some 13) 674 true [((.v 12), true)]),
        (none, .asg 7 (.v 13) .copy)])
      (.seq
       (.region [(16, 5, false), (14, 6, false)] [] [2, 3, 4] false [
         (none, .mv 14 (.v 6)),
         (none, .mv 15 (.v 7)),
         (none, .mv 16 (.v 5)),
         (none, .call (some 17) 673 true [((.v 16), true)]),
         (none, .asg 2 (.v 14) .move),
         (none, .asg 3 (.v 15) .copy),
         (none, .asg 4 (.v 17) .copy)])
       (.ret [2, 3, 4]))))))⟩
def F670 : PFunc :=
 ⟨[true], [.cell 2 true 3],
  (.seq
   (.region [] [] [0, 2] false [
     (none, .new 2 (.agg [(.int .i64 0), (.int .i64 0), (.int .i64 0)]))])
   (.seq
    (.region [(4, 0, false)] [] [0, 2, 3] false [
      (none, .mv 4 (.v 0)),
      (none, .call (some 5) 679 true [((.v 4), true)]),
      (none, .new 3 (.agg [(.int .i64 0), (.int .i64 0), (.int .i64 0)])),
      (none, .store 3 (.v 3) (.v 5) .copy)])
    (.seq
     (.seq
      (.region [(6, 0, false)] [] [0, 2, 3, 7] false [
        (none, .mv 6 (.v 0)),
        (none, .call (some 7) 6 true [((.v 6), true), ((.c (.int .i64 10)), false)])])
      (.cond (.v 7)
       (.region [(8, 0, false)] [] [0, 2, 3] false [
         (none, .mv 8 (.v 0)),
         (none, .call (some 9) 683 true [((.v 8), true), ((.v 3), true)])])
       (.skip [0, 2, 3])))
     (.seq
      (.region [] [] [0, 2] false [
        (none, .load 10 true 3 (.v 3) none),
        (none, .store 3 (.v 2) (.v 10) .copy)])
      (.ret [0, 2])))))⟩
def F675 : PFunc :=
 ⟨[true], [.tmp 2],
  (.seq
   (.region [] [] [0] false [
     (none, .asg 2 (.c (.sl true 1 [])) .copy)])
   (.seq
    (.region [] [] [0, 3] false [
      (none, .mksl 6 1 (.int .i64 0) 0 []),
      (none, .asg 3 (.v 6) .move)])
    (.seq
     (.region [(7, 0, false)] [] [0, 3, 4] false [
       (none, .mv 7 (.v 0)),
       (none, .call (some 8) 7 true [((.v 7), true), ((.c (.int .i64 7)), false)]),
       (none, .asg 4 (.v 8) .copy)])
     (.seq
      (.seq
       (.region [(9, 0, false)] [] [0, 3, 4, 10] false [
         (none, .mv 9 (.v 0)),
         (none, .call (some 10) 6 true [((.v 9), true), ((.c (.int .i64 20)), false)])])
       (.cond (.v 10)
        (.region [(11, 0, false)] [] [0, 3, 4] false [
          (none, .mv 11 (.v 0)),
          (none, .call (some 12) 7 true [((.v 11), true), ((.c (.int .i64 2)), false)]),
          (none, .bin 13 .add (.c (.int .i64 12)) (.v 12)),
          (none, .asg 4 (.v 13) .copy)])
        (.skip [0, 3, 4])))
      (.seq
       (.seq
        (.region [] [] [0, 3, 4, 5] false [
          (none, .mv 14 (.v 4)),
          (none, .asg 5 (.v 14) .copy)])
        (.block 0
         (.loop
          (.seq
           (.seq
            (.region [] [] [0, 3, 4, 5, 16] false [
              (none, .mv 15 (.v 5)),
              (none, .bin 16 .gtr (.v 15) (.c (.int .i64 0)))])
            (.cond (.v 16)
             (.skip [0, 3, 4, 5])
             (.exit 0 [0, 3, 4])))
           (.seq
            (.block 1
             (.region [(20, 0, false), (19, 3, false)] [] [0, 3, 4, 5] false [
               (none, .mv 19 (.v 3)),
               (none, .mv 20 (.v 0)),
               (none, .call (some 21) 7 true [((.v 20), true), ((.c (.int .i64 20)), false)]),
               (none, .bin 22 .mul (.c (.int .i64 25)) (.v 21)),
               (none, .bin 23 .add (.c (.int .i64 100)) (.v 22)),
               (none, .mksl 24 1 (.int .i64 0) 1 [(0, (.v 23), .copy)]),
               (none, .app 25 1 (.v 19) (.v 24) .move),
               (none, .asg 3 (.v 25) .move)]))
            (.region [] [] [0, 3, 4, 5] false [
              (none, .mv 17 (.v 5)),
              (none, .bin 18 .sub (.v 17) (.c (.int .i64 1))),
              (none, .asg 5 (.v 18) .copy)]))))))
       (.seq
        (.seq
         (.region [(29, 0, false)] [] [0, 3, 31] false [
           (none, .mv 26 (.v 4)),
           (none, .bin 27 .gtr (.v 26) (.c (.int .i64 0))),
           (none, .mv 28 (.v 27)),
           (some (28, true), .mv 29 (.v 0)),
           (some (28, true), .call (some 30) 6 true [((.v 29), true), ((.c (.int .i64 10)), false)]),
           (none, .pick 31 (.v 28) (.v 30) (.c (.bool false)))])
         (.cond (.v 31)
          (.region [(35, 3, false), (33, 0, false), (32, 3, false)] [] [0, 3] false [
            (none, .mv 32 (.v 3)),
            (none, .mv 33 (.v 0)),
            (none, .call (some 34) 673 true [((.v 33), true)]),
            (none, .iadr 35 1 (.v 32) (.c (.int .i64 0))),
            (none, .store 1 (.v 35) (.v 34) .copy)])
          (.skip [0, 3])))
        (.seq
         (.region [(36, 3, false)] [] [0, 2] false [
           (none, .mv 36 (.v 3)),
           (none, .asg 2 (.v 36) .move)])
         (.ret [0, 2]))))))))⟩
def F480 : PFunc :=
 ⟨[false], [.cell 2 true 3, .tmp 3, .tmp 4],
  (.seq
   (.region [] [] [0, 2] false [
     (none, .new 2 (.agg [(.int .i64 0), (.int .i64 0), (.int .i64 0)])),
     (none, .asg 3 (.c (.int .i64 0)) .copy),
     (none, .asg 4 (.c (.sl true 1 [])) .copy)])
   (.seq
    (.region [(8, 0, false)] [] [2, 5] false [
      (none, .mv 8 (.v 0)),
      (none, .call (some 9) 603 true [((.v 8), false)]),
      (none, .asg 5 (.v 9) .move)])
    (.seq
     (.region [(10, 5, false)] [] [2, 5, 6] false [
       (none, .mv 10 (.v 5)),
       (none, .call (some 11) 670 true [((.v 10), true)]),
       (none, .new 6 (.agg [(.int .i64 0), (.int .i64 0), (.int .i64 0)])),
       (none, .store 3 (.v 6) (.v 11) .copy)])
     (.seq
      (.region [(12, 5, false)] [] [2, 5, 6, 7] false [
        (none, .mv 12 (.v 5)),
        (none, .call (some 13) 674 true [((.v 12), true)]),
        (none, .asg 7 (.v 13) .copy)])
      (.seq
       (.region [(16, 5, false)] [] [2, 3, 4] true [
         (none, .load 14 true 3 (.v 6) none),
         (none, .mv 15 (.v 7)),
         (none, .mvr 16 5),
         (none, .call (some 17) 675 true [((.v 16), true)]),
         (none, .store 3 (.v 2) (.v 14) .copy),
         (none, .asg 3 (.v 15) .copy),
         (none, .asg 4 (.v 17) .move)])
       (.ret [2, 3, 4]))))))⟩
def F503 : PFunc :=
 ⟨[false], [.cell 2 true 3, .tmp 3, .tmp 4],
  (.seq
   (.region [] [] [0, 2] false [
     (none, .new 2 (.agg [(.int .i64 0), (.int .i64 0), (.int .i64 0)])),
     (none, .asg 3 (.c (.int .i64 0)) .copy),
     (none, .asg 4 (.c (.int .i64 0)) .copy)])
   (.seq
    (.region [(8, 0, false)] [] [2, 5] false [
      (none, .mv 8 (.v 0)),
      (none, .call (some 9) 603 true [((.v 8), false)]),
      (none, .asg 5 (.v 9) .move)])
    (.seq
     (.region [(10, 5, false)] [] [2, 5, 6] false [
       (none, .mv 10 (.v 5)),
       (none, .call (some 11) 670 true [((.v 10), true)]),
       (none, .new 6 (.agg [(.int .i64 0), (.int .i64 0), (.int .i64 0)])),
       (none, .store 3 (.v 6) (.v 11) .copy)])
     (.seq
      (.region [(12, 5, false)] [] [2, 5, 6, 7] false [
        (none, .mv 12 (.v 5)),
        (none, .call (some 13) 674 true [((.v 12), true)]),
        (none, .asg 7 (.v 13) .copy)])
      (.seq
       (.region [(16, 5, false)] [] [2, 3, 4] true [
         (none, .load 14 true 3 (.v 6) none),
         (none, .mv 15 (.v 7)),
         (none, .mvr 16 5),
         (none, .call (some 17) 673 true [((.v 16), true)]),
         (none, .store 3 (.v 2) (.v 14) .copy),
         (none, .asg 3 (.v 15) .copy),
         (none, .asg 4 (.v 17) .copy)])
       (.ret [2, 3, 4]))))))⟩
def F605 : PFunc :=
 ⟨[false, false, false], [.tmp 6],
  (.seq
   (.region [] [] [0, 1, 2] false [
     (none, .asg 6 (.c (.bool false)) .copy)])
   (.seq
    (.region [] [] [6] false [
      (none, .mv 7 (.v 0)),
      (none, .mv 8 (.v 1)),
      (none, .bin 9 .geq (.v 7) (.v 8)),
      (none, .mv 10 (.v 9)),
      (some (10, true), .mv 11 (.v 0)),
      (some (10, true), .mv 12 (.v 2)),
      (some (10, true), .bin 13 .leq (.v 11) (.v 12)),
      (none, .pick 14 (.v 10) (.v 13) (.c (.bool false))),
      (none, .asg 6 (.v 14) .copy)])
    (.ret [6])))⟩
def F681 : PFunc :=
 ⟨[false], [.tmp 2],
  (.seq
   (.region [] [] [0] false [
     (none, .asg 2 (.c (.bool false)) .copy)])
   (.seq
    (.region [(22, 0, false), (21, 0, false), (20, 0, false), (18, 0, false), (17, 0, false), (16, 0, false), (11, 0, false), (10, 0, false), (9, 0, false), (5, 0, false), (4, 0, false), (3, 0, false)] [] [2] true [
      (none, .mv 3 (.v 0)),
      (none, .nchk 4 (.v 3)),
      (none, .fadr 5 0 1 (.v 4)),
      (none, .load 6 false 1 (.v 5) none),
      (none, .call (some 7) 605 false [((.v 6), false), ((.c (.int .i64 1)), false), ((.c (.int .i64 100000)), false)]),
      (none, .mv 8 (.v 7)),
      (some (8, true), .mv 9 (.v 0)),
      (some (8, true), .nchk 10 (.v 9)),
      (some (8, true), .fadr 11 1 1 (.v 10)),
      (some (8, true), .load 12 false 1 (.v 11) none),
      (some (8, true), .call (some 13) 605 false [((.v 12), false), ((.c (.int .i64 1)), false), ((.c (.int .i64 100000)), false)]),
      (none, .pick 14 (.v 8) (.v 13) (.c (.bool false))),
      (none, .mv 15 (.v 14)),
      (some (15, true), .mv 16 (.v 0)),
      (some (15, true), .nchk 17 (.v 16)),
      (some (15, true), .fadr 18 2 1 (.v 17)),
      (some (15, true), .load 19 false 1 (.v 18) none),
      (some (15, true), .mv 20 (.v 0)),
      (some (15, true), .nchk 21 (.v 20)),
      (some (15, true), .fadr 22 1 1 (.v 21)),
      (some (15, true), .load 23 false 1 (.v 22) none),
      (some (15, true), .call (some 24) 605 false [((.v 19), false), ((.v 23), false), ((.c (.int .i64 100000)), false)]),
      (none, .pick 25 (.v 15) (.v 24) (.c (.bool false))),
      (none, .asg 2 (.v 25) .copy)])
    (.ret [2])))⟩
def F682 : PFunc :=
 ⟨[false], [.tmp 2],
  (.seq
   (.region [] [] [0] false [
     (none, .asg 2 (.c (.bool false)) .copy)])
   (.seq
    (.region [] [] [2] false [
      (none, .mv 3 (.v 0)),
      (none, .call (some 4) 605 false [((.v 3), false), ((.c (.int .i64 1)), false), ((.c (.int .i64 200)), false)]),
      (none, .asg 2 (.v 4) .copy)])
    (.ret [2])))⟩
def F685 : PFunc :=
 ⟨[false, false, false], [.tmp 6],
  (.seq
   (.region [] [] [0, 1, 2] false [
     (none, .asg 6 (.c (.bool false)) .copy)])
   (.seq
    (.region [(11, 0, false), (10, 0, false), (9, 0, false)] [] [0, 2, 7] false [
      (none, .mv 8 (.v 1)),
      (none, .mv 9 (.v 0)),
      (none, .nchk 10 (.v 9)),
      (none, .fadr 11 0 1 (.v 10)),
      (none, .load 12 false 1 (.v 11) none),
      (none, .mv 13 (.v 2)),
      (none, .bin 14 .sub (.v 12) (.v 13)),
      (none, .bin 15 .mul (.v 8) (.v 14)),
      (none, .asg 7 (.v 15) .copy)])
    (.seq
     (.region [(28, 0, false), (27, 0, false), (26, 0, false), (19, 0, false), (18, 0, false), (17, 0, false)] [] [6] false [
       (none, .mv 16 (.v 7)),
       (none, .mv 17 (.v 0)),
       (none, .nchk 18 (.v 17)),
       (none, .fadr 19 1 1 (.v 18)),
       (none, .load 20 false 1 (.v 19) none),
       (none, .mv 21 (.v 2)),
       (none, .bin 22 .mul (.v 20) (.v 21)),
       (none, .bin 23 .geq (.v 16) (.v 22)),
       (none, .mv 24 (.v 23)),
       (some (24, true), .mv 25 (.v 7)),
       (some (24, true), .mv 26 (.v 0)),
       (some (24, true), .nchk 27 (.v 26)),
       (some (24, true), .fadr 28 2 1 (.v 27)),
       (some (24, true), .load 29 false 1 (.v 28) none),
       (some (24, true), .mv 30 (.v 2)),
       (some (24, true), .bin 31 .mul (.v 29) (.v 30)),
       (some (24, true), .bin 32 .leq (.v 25) (.v 31)),
       (none, .pick 33 (.v 24) (.v 32) (.c (.bool false))),
       (none, .asg 6 (.v 33) .copy)])
     (.ret [6]))))⟩
def F524 : PFunc :=
 ⟨[false, false], [.tmp 4, .tmp 5, .tmp 6],
  (.seq
   (.region [] [] [1, 2] false [
     (none, .box 2 (.v 0) .copy),
     (none, .asg 4 (.c (.int .i64 0)) .copy),
     (none, .asg 5 (.c (.int .i64 0)) .copy),
     (none, .asg 6 (.c (.int .i64 0)) .copy)])
   (.seq
    (.seq
     (.region [] [] [1, 2, 11] false [
       (none, .call (some 10) 681 false [((.v 2), false)]),
       (none, .un 11 .not (.v 10))])
     (.cond (.v 11)
      (.seq
       (.region [] [] [4, 5, 6] false [
         (none, .asg 4 (.c (.int .i64 0)) .copy),
         (none, .asg 5 (.c (.int .i64 0)) .copy),
         (none, .asg 6 (.c (.int .i64 1)) .copy)])
       (.ret [4, 5, 6]))
      (.skip [1, 2])))
    (.seq
     (.seq
      (.region [] [] [1, 2, 14] false [
        (none, .mv 12 (.v 1)),
        (none, .call (some 13) 682 false [((.v 12), false)]),
        (none, .un 14 .not (.v 13))])
      (.cond (.v 14)
       (.seq
        (.region [] [] [4, 5, 6] false [
          (none, .asg 4 (.c (.int .i64 0)) .copy),
          (none, .asg 5 (.c (.int .i64 0)) .copy),
          (none, .asg 6 (.c (.int .i64 2)) .copy)])
        (.ret [4, 5, 6]))
       (.skip [1, 2])))
     (.seq
      (.region [] [] [1, 2, 7] false [
        (none, .asg 7 (.c (.int .i64 0)) .copy)])
      (.seq
       (.region [] [] [1, 2, 7, 8] false [
         (none, .asg 8 (.c (.int .i64 0)) .copy)])
       (.seq
        (.seq
         (.region [] [] [1, 2, 7, 8, 9] false [
           (none, .asg 9 (.c (.int .i64 1)) .copy)])
         (.block 0
          (.loop
           (.seq
            (.seq
             (.region [] [] [1, 2, 7, 8, 9, 16] false [
               (none, .mv 15 (.v 9)),
               (none, .bin 16 .leq (.v 15) (.c (.int .i64 2000)))])
             (.cond (.v 16)
              (.skip [1, 2, 7, 8, 9])
              (.exit 0 [7, 8])))
            (.seq
             (.block 1
              (.seq
               (.seq
                (.region [] [] [1, 2, 7, 8, 9, 22] false [
                  (none, .mv 19 (.v 1)),
                  (none, .mv 20 (.v 9)),
                  (none, .call (some 21) 685 false [((.v 2), false), ((.v 19), false), ((.v 20), false)]),
                  (none, .un 22 .not (.v 21))])
                (.cond (.v 22)
                 (.exit 1 [1, 2, 7, 8, 9])
                 (.skip [1, 2, 7, 9])))
               (.seq
                (.seq
                 (.region [] [] [1, 2, 7, 9, 24] false [
                   (none, .mv 23 (.v 7)),
                   (none, .bin 24 .eql (.v 23) (.c (.int .i64 0)))])
                 (.cond (.v 24)
                  (.region [] [] [1, 2, 7, 9] false [
                    (none, .mv 25 (.v 9)),
                    (none, .asg 7 (.v 25) .copy)])
                  (.skip [1, 2, 7, 9])))
                (.region [] [] [1, 2, 7, 8, 9] false [
                  (none, .mv 26 (.v 9)),
                  (none, .asg 8 (.v 26) .copy)]))))
             (.region [] [] [1, 2, 7, 8, 9] false [
               (none, .mv 17 (.v 9)),
               (none, .bin 18 .add (.v 17) (.c (.int .i64 1))),
               (none, .asg 9 (.v 18) .copy)]))))))
        (.seq
         (.seq
          (.region [] [] [7, 8, 28] false [
            (none, .mv 27 (.v 7)),
            (none, .bin 28 .eql (.v 27) (.c (.int .i64 0)))])
          (.cond (.v 28)
           (.seq
            (.region [] [] [4, 5, 6] false [
              (none, .asg 4 (.c (.int .i64 0)) .copy),
              (none, .asg 5 (.c (.int .i64 0)) .copy),
              (none, .asg 6 (.c (.int .i64 3)) .copy)])
            (.ret [4, 5, 6]))
           (.skip [7, 8])))
         (.seq
          (.region [] [] [4, 5, 6] false [
            (none, .mv 29 (.v 7)),
            (none, .mv 30 (.v 8)),
            (none, .asg 4 (.v 29) .copy),
            (none, .asg 5 (.v 30) .copy),
            (none, .asg 6 (.c (.int .i64 0)) .copy)])
          (.ret [4, 5, 6])))))))))⟩
def F676 : PFunc :=
 ⟨[false], [.tmp 2],
  (.seq
   (.region [] [] [0] false [
     (none, .asg 2 (.c (.bool false)) .copy)])
   (.seq
    (.region [] [] [2] false [
      (none, .mv 3 (.v 0)),
      (none, .call (some 4) 605 false [((.v 3), false), ((.c (.int .i64 1)), false), ((.c (.int .i64 2000)), false)]),
      (none, .asg 2 (.v 4) .copy)])
    (.ret [2])))⟩
def F680 : PFunc :=
 ⟨[false], [.tmp 2],
  (.seq
   (.region [] [] [0] false [
     (none, .asg 2 (.c (.bool false)) .copy)])
   (.seq
    (.seq
     (.region [] [] [0, 3] false [
       (none, .asg 3 (.c (.int .i64 0)) .copy)])
     (.block 0
      (.loop
       (.seq
        (.seq
         (.region [(5, 0, false)] [] [0, 3, 7] false [
           (none, .mv 4 (.v 3)),
           (none, .mv 5 (.v 0)),
           (none, .len 6 false (.v 5)),
           (none, .bin 7 .lss (.v 4) (.v 6))])
         (.cond (.v 7)
          (.skip [0, 3])
          (.exit 0 [0])))
        (.seq
         (.block 1
          (.seq
           (.region [(12, 0, false), (10, 0, false)] [] [0, 3, 14] false [
             (none, .mv 10 (.v 0)),
             (none, .mv 11 (.v 3)),
             (none, .iadr 12 3 (.v 10) (.v 11)),
             (none, .call (some 13) 681 false [((.v 12), false)]),
             (none, .un 14 .not (.v 13))])
           (.cond (.v 14)
            (.seq
             (.region [] [] [2] false [
               (none, .asg 2 (.c (.bool false)) .copy)])
             (.ret [2]))
            (.skip [0, 3]))))
         (.region [] [] [0, 3] false [
           (none, .mv 8 (.v 3)),
           (none, .bin 9 .add (.v 8) (.c (.int .i64 1))),
           (none, .asg 3 (.v 9) .copy)]))))))
    (.seq
     (.region [(15, 0, false)] [] [2] false [
       (none, .mv 15 (.v 0)),
       (none, .len 16 false (.v 15)),
       (none, .bin 17 .leq (.v 16) (.c (.int .i64 8))),
       (none, .asg 2 (.v 17) .copy)])
     (.ret [2]))))⟩
def F530 : PFunc :=
 ⟨[false, false, false], [.tmp 6, .tmp 7],
  (.seq
   (.region [] [] [0, 1, 2] false [
     (none, .asg 6 (.c (.sl true 1 [])) .copy),
     (none, .asg 7 (.c (.int .i64 0)) .copy)])
   (.seq
    (.seq
     (.region [(10, 0, false)] [] [0, 1, 2, 12] false [
       (none, .mv 10 (.v 0)),
       (none, .call (some 11) 680 false [((.v 10), false)]),
       (none, .un 12 .not (.v 11))])
     (.cond (.v 12)
      (.seq
       (.region [] [] [6, 7] false [
         (none, .asg 6 (.c (.sl true 1 [])) .copy),
         (none, .asg 7 (.c (.int .i64 1)) .copy)])
       (.ret [6, 7]))
      (.skip [0, 1, 2])))
    (.seq
     (.seq
      (.region [] [] [0, 1, 2, 20] false [
        (none, .mv 13 (.v 1)),
        (none, .call (some 14) 682 false [((.v 13), false)]),
        (none, .un 15 .not (.v 14)),
        (none, .mv 16 (.v 15)),
        (some (16, false), .mv 17 (.v 2)),
        (some (16, false), .call (some 18) 676 false [((.v 17), false)]),
        (some (16, false), .un 19 .not (.v 18)),
        (none, .pick 20 (.v 16) (.c (.bool true)) (.v 19))])
      (.cond (.v 20)
       (.seq
        (.region [] [] [6, 7] false [
          (none, .asg 6 (.c (.sl true 1 [])) .copy),
          (none, .asg 7 (.c (.int .i64 2)) .copy)])
        (.ret [6, 7]))
       (.skip [0, 1, 2])))
     (.seq
      (.region [] [] [0, 1, 2, 8] false [
        (none, .mksl 21 1 (.int .i64 0) 0 []),
        (none, .asg 8 (.v 21) .move)])
      (.seq
       (.seq
        (.region [] [] [0, 1, 2, 8, 9] false [
          (none, .asg 9 (.c (.int .i64 0)) .copy)])
        (.block 0
         (.loop
          (.seq
           (.seq
            (.region [(23, 0, false)] [] [0, 1, 2, 8, 9, 25] false [
              (none, .mv 22 (.v 9)),
              (none, .mv 23 (.v 0)),
              (none, .len 24 false (.v 23)),
              (none, .bin 25 .lss (.v 22) (.v 24))])
            (.cond (.v 25)
             (.skip [0, 1, 2, 8, 9])
             (.exit 0 [8])))
           (.seq
            (.block 1
             (.seq
              (.region [(30, 0, false), (28, 0, false)] [] [0, 1, 2, 8, 9, 33] false [
                (none, .mv 28 (.v 0)),
                (none, .mv 29 (.v 9)),
                (none, .iadr 30 3 (.v 28) (.v 29)),
                (none, .mv 31 (.v 1)),
                (none, .mv 32 (.v 2)),
                (none, .call (some 33) 685 false [((.v 30), false), ((.v 31), false), ((.v 32), false)])])
              (.cond (.v 33)
               (.region [(34, 8, false)] [] [0, 1, 2, 8, 9] false [
                 (none, .mv 34 (.v 8)),
                 (none, .mv 35 (.v 9)),
                 (none, .mksl 36 1 (.int .i64 0) 1 [(0, (.v 35), .copy)]),
                 (none, .app 37 1 (.v 34) (.v 36) .move),
                 (none, .asg 8 (.v 37) .move)])
               (.skip [0, 1, 2, 8, 9]))))
            (.region [] [] [0, 1, 2, 8, 9] false [
              (none, .mv 26 (.v 9)),
              (none, .bin 27 .add (.v 26) (.c (.int .i64 1))),
              (none, .asg 9 (.v 27) .copy)]))))))
       (.seq
        (.region [(38, 8, false)] [] [6, 7] false [
          (none, .mv 38 (.v 8)),
          (none, .asg 6 (.v 38) .move),
          (none, .asg 7 (.c (.int .i64 0)) .copy)])
        (.ret [6, 7])))))))⟩
def F684 : PFunc :=
 ⟨[false], [.tmp 2],
  (.seq
   (.region [] [] [0] false [
     (none, .asg 2 (.c (.bool false)) .copy)])
   (.seq
    (.seq
     (.region [] [] [0, 3] false [
       (none, .asg 3 (.c (.int .i64 0)) .copy)])
     (.block 0
      (.loop
       (.seq
        (.seq
         (.region [(5, 0, false)] [] [0, 3, 7] false [
           (none, .mv 4 (.v 3)),
           (none, .mv 5 (.v 0)),
           (none, .len 6 false (.v 5)),
           (none, .bin 7 .lss (.v 4) (.v 6))])
         (.cond (.v 7)
          (.skip [0, 3])
          (.exit 0 [0])))
        (.seq
         (.block 1
          (.seq
           (.region [(12, 0, false), (10, 0, false)] [] [0, 3, 15] false [
             (none, .mv 10 (.v 0)),
             (none, .mv 11 (.v 3)),
             (none, .iadr 12 1 (.v 10) (.v 11)),
             (none, .load 13 false 1 (.v 12) none),
             (none, .call (some 14) 676 false [((.v 13), false)]),
             (none, .un 15 .not (.v 14))])
           (.cond (.v 15)
            (.seq
             (.region [] [] [2] false [
               (none, .asg 2 (.c (.bool false)) .copy)])
             (.ret [2]))
            (.skip [0, 3]))))
         (.region [] [] [0, 3] false [
           (none, .mv 8 (.v 3)),
           (none, .bin 9 .add (.v 8) (.c (.int .i64 1))),
           (none, .asg 3 (.v 9) .copy)]))))))
    (.seq
     (.region [(16, 0, false)] [] [2] false [
       (none, .mv 16 (.v 0)),
       (none, .len 17 false (.v 16)),
       (none, .bin 18 .leq (.v 17) (.c (.int .i64 12))),
       (none, .asg 2 (.v 18) .copy)])
     (.ret [2]))))⟩
def F539 : PFunc :=
 ⟨[false, false, false], [.tmp 6, .tmp 7],
  (.seq
   (.region [] [] [1, 2, 3] false [
     (none, .box 3 (.v 0) .copy),
     (none, .asg 6 (.c (.sl true 1 [])) .copy),
     (none, .asg 7 (.c (.int .i64 0)) .copy)])
   (.seq
    (.seq
     (.region [] [] [1, 2, 3, 11] false [
       (none, .call (some 10) 681 false [((.v 3), false)]),
       (none, .un 11 .not (.v 10))])
     (.cond (.v 11)
      (.seq
       (.region [] [] [6, 7] false [
         (none, .asg 6 (.c (.sl true 1 [])) .copy),
         (none, .asg 7 (.c (.int .i64 1)) .copy)])
       (.ret [6, 7]))
      (.skip [1, 2, 3])))
    (.seq
     (.seq
      (.region [(16, 2, false)] [] [1, 2, 3, 19] false [
        (none, .mv 12 (.v 1)),
        (none, .call (some 13) 682 false [((.v 12), false)]),
        (none, .un 14 .not (.v 13)),
        (none, .mv 15 (.v 14)),
        (some (15, false), .mv 16 (.v 2)),
        (some (15, false), .call (some 17) 684 false [((.v 16), false)]),
        (some (15, false), .un 18 .not (.v 17)),
        (none, .pick 19 (.v 15) (.c (.bool true)) (.v 18))])
      (.cond (.v 19)
       (.seq
        (.region [] [] [6, 7] false [
          (none, .asg 6 (.c (.sl true 1 [])) .copy),
          (none, .asg 7 (.c (.int .i64 2)) .copy)])
        (.ret [6, 7]))
       (.skip [1, 2, 3])))
     (.seq
      (.region [] [] [1, 2, 3, 8] false [
        (none, .mksl 20 1 (.int .i64 0) 0 []),
        (none, .asg 8 (.v 20) .move)])
      (.seq
       (.seq
        (.region [] [] [1, 2, 3, 8, 9] false [
          (none, .asg 9 (.c (.int .i64 0)) .copy)])
        (.block 0
         (.loop
          (.seq
           (.seq
            (.region [(22, 2, false)] [] [1, 2, 3, 8, 9, 24] false [
              (none, .mv 21 (.v 9)),
              (none, .mv 22 (.v 2)),
              (none, .len 23 false (.v 22)),
              (none, .bin 24 .lss (.v 21) (.v 23))])
            (.cond (.v 24)
             (.skip [1, 2, 3, 8, 9])
             (.exit 0 [8])))
           (.seq
            (.block 1
             (.seq
              (.region [(30, 2, false), (28, 2, false)] [] [1, 2, 3, 8, 9, 32] false [
                (none, .mv 27 (.v 1)),
                (none, .mv 28 (.v 2)),
                (none, .mv 29 (.v 9)),
                (none, .iadr 30 1 (.v 28) (.v 29)),
                (none, .load 31 false 1 (.v 30) none),
                (none, .call (some 32) 685 false [((.v 3), false), ((.v 27), false), ((.v 31), false)])])
              (.cond (.v 32)
               (.region [(33, 8, false)] [] [1, 2, 3, 8, 9] false [
                 (none, .mv 33 (.v 8)),
                 (none, .mv 34 (.v 9)),
                 (none, .mksl 35 1 (.int .i64 0) 1 [(0, (.v 34), .copy)]),
                 (none, .app 36 1 (.v 33) (.v 35) .move),
                 (none, .asg 8 (.v 36) .move)])
               (.skip [1, 2, 3, 8, 9]))))
            (.region [] [] [1, 2, 3, 8, 9] false [
              (none, .mv 25 (.v 9)),
              (none, .bin 26 .add (.v 25) (.c (.int .i64 1))),
              (none, .asg 9 (.v 26) .copy)]))))))
       (.seq
        (.region [(37, 8, false)] [] [6, 7] false [
          (none, .mv 37 (.v 8)),
          (none, .asg 6 (.v 37) .move),
          (none, .asg 7 (.c (.int .i64 0)) .copy)])
        (.ret [6, 7])))))))⟩
def F579 : PFunc :=
 ⟨[false, false, false], [.tmp 6, .tmp 7],
  (.seq
   (.region [] [] [1, 2, 3] false [
     (none, .box 3 (.v 0) .copy),
     (none, .asg 6 (.c (.bool false)) .copy),
     (none, .asg 7 (.c (.int .i64 0)) .copy)])
   (.seq
    (.seq
     (.region [] [] [1, 2, 3, 9] false [
       (none, .call (some 8) 681 false [((.v 3), false)]),
       (none, .un 9 .not (.v 8))])
     (.cond (.v 9)
      (.seq
       (.region [] [] [6, 7] false [
         (none, .asg 6 (.c (.bool false)) .copy),
         (none, .asg 7 (.c (.int .i64 1)) .copy)])
       (.ret [6, 7]))
      (.skip [1, 2, 3])))
    (.seq
     (.seq
      (.region [] [] [1, 2, 3, 17] false [
        (none, .mv 10 (.v 1)),
        (none, .call (some 11) 682 false [((.v 10), false)]),
        (none, .un 12 .not (.v 11)),
        (none, .mv 13 (.v 12)),
        (some (13, false), .mv 14 (.v 2)),
        (some (13, false), .call (some 15) 676 false [((.v 14), false)]),
        (some (13, false), .un 16 .not (.v 15)),
        (none, .pick 17 (.v 13) (.c (.bool true)) (.v 16))])
      (.cond (.v 17)
       (.seq
        (.region [] [] [6, 7] false [
          (none, .asg 6 (.c (.bool false)) .copy),
          (none, .asg 7 (.c (.int .i64 2)) .copy)])
        (.ret [6, 7]))
       (.skip [1, 2, 3])))
     (.seq
      (.region [] [] [6, 7] false [
        (none, .mv 18 (.v 1)),
        (none, .mv 19 (.v 2)),
        (none, .call (some 20) 685 false [((.v 3), false), ((.v 18), false), ((.v 19), false)]),
        (none, .asg 6 (.v 20) .copy),
        (none, .asg 7 (.c (.int .i64 0)) .copy)])
      (.ret [6, 7])))))⟩
def F360 : PFunc :=
 ⟨[false], [.tmp 2],
  (.seq
   (.region [] [] [0] false [
     (none, .asg 2 (.c (.bool false)) .copy)])
   (.seq
    (.seq
     (.region [(36, 0, false)] [] [0, 37] false [
       (none, .mv 36 (.v 0)),
       (none, .call (some 37) 398 false [((.v 36), false)])])
     (.cond (.v 37)
      (.seq
       (.region [] [] [2] false [
         (none, .asg 2 (.c (.bool true)) .copy)])
       (.ret [2]))
      (.skip [0])))
    (.seq
     (.region [(39, 0, false)] [] [0, 3, 4, 5] false [
       (none, .mv 39 (.v 0)),
       (none, .call (some 40) 503 false [((.v 39), false)]),
       (none, .asg 38 (.v 40) .copy),
       (none, .extp 41 (.v 38) 0),
       (none, .extp 42 (.v 38) 1),
       (none, .extp 43 (.v 38) 2),
       (none, .new 3 (.agg [(.int .i64 0), (.int .i64 0), (.int .i64 0)])),
       (none, .store 3 (.v 3) (.v 41) .copy),
       (none, .asg 4 (.v 42) .copy),
       (none, .asg 5 (.v 43) .copy)])
     (.seq
      (.region [] [] [0, 3, 4, 5, 6, 7] false [
        (none, .load 45 true 3 (.v 3) none),
        (none, .mv 46 (.v 4)),
        (none, .mv 47 (.v 5)),
        (none, .call (some 48) 194 false [((.v 45), false), ((.v 46), false), ((.v 47), false)]),
        (none, .asg 44 (.v 48) .copy),
        (none, .extp 49 (.v 44) 0),
        (none, .extp 50 (.v 44) 1),
        (none, .asg 6 (.v 49) .copy),
        (none, .asg 7 (.v 50) .copy)])
      (.seq
       (.region [] [] [0, 3, 4, 5, 6, 7, 8, 9] false [
         (none, .load 52 true 3 (.v 3) none),
         (none, .mv 53 (.v 4)),
         (none, .mv 54 (.v 5)),
         (none, .call (some 55) 579 false [((.v 52), false), ((.v 53), false), ((.v 54), false)]),
         (none, .asg 51 (.v 55) .copy),
         (none, .extp 56 (.v 51) 0),
         (none, .extp 57 (.v 51) 1),
         (none, .asg 8 (.v 56) .copy),
         (none, .asg 9 (.v 57) .copy)])
       (.seq
        (.region [] [] [0, 3, 4, 5, 6, 7, 8, 9, 10, 11, 12] false [
          (none, .load 59 true 3 (.v 3) none),
          (none, .mv 60 (.v 4)),
          (none, .call (some 61) 101 false [((.v 59), false), ((.v 60), false)]),
          (none, .asg 58 (.v 61) .copy),
          (none, .extp 62 (.v 58) 0),
          (none, .extp 63 (.v 58) 1),
          (none, .extp 64 (.v 58) 2),
          (none, .asg 10 (.v 62) .copy),
          (none, .asg 11 (.v 63) .copy),
          (none, .asg 12 (.v 64) .copy)])
        (.seq
         (.region [] [] [0, 5, 6, 7, 8, 9, 10, 11, 12, 13, 14, 15] false [
           (none, .load 66 true 3 (.v 3) none),
           (none, .mv 67 (.v 4)),
           (none, .call (some 68) 524 false [((.v 66), false), ((.v 67), false)]),
           (none, .asg 65 (.v 68) .copy),
           (none, .extp 69 (.v 65) 0),
           (none, .extp 70 (.v 65) 1),
           (none, .extp 71 (.v 65) 2),
           (none, .asg 13 (.v 69) .copy),
           (none, .asg 14 (.v 70) .copy),
           (none, .asg 15 (.v 71) .copy)])
         (.seq
          (.region [(73, 0, false)] [] [0, 5, 6, 7, 8, 9, 10, 11, 12, 13, 14, 15, 16, 17, 18] false [
            (none, .mv 73 (.v 0)),
            (none, .call (some 74) 480 false [((.v 73), false)]),
            (none, .asg 72 (.v 74) .move),
            (none, .extp 75 (.v 72) 0),
            (none, .extp 76 (.v 72) 1),
            (none, .ext 77 (.v 72) 2),
            (none, .new 16 (.agg [(.int .i64 0), (.int .i64 0), (.int .i64 0)])),
            (none, .store 3 (.v 16) (.v 75) .copy),
            (none, .asg 17 (.v 76) .copy),
            (none, .asg 18 (.v 77) .move)])
          (.seq
           (.region [(81, 18, false)] [] [0, 5, 6, 7, 8, 9, 10, 11, 12, 13, 14, 15, 16, 17, 18, 19, 20] false [
             (none, .load 79 true 3 (.v 16) none),
             (none, .mv 80 (.v 17)),
             (none, .mv 81 (.v 18)),
             (none, .call (some 82) 128 false [((.v 79), false), ((.v 80), false), ((.v 81), false)]),
             (none, .asg 78 (.v 82) .move),
             (none, .ext 83 (.v 78) 0),
             (none, .extp 84 (.v 78) 1),
             (none, .asg 19 (.v 83) .move),
             (none, .asg 20 (.v 84) .copy)])
           (.seq
            (.region [(88, 18, false)] [] [0, 5, 6, 7, 8, 9, 10, 11, 12, 13, 14, 15, 16, 17, 18, 19, 20, 21, 22] false [
              (none, .load 86 true 3 (.v 16) none),
              (none, .mv 87 (.v 17)),
              (none, .mv 88 (.v 18)),
              (none, .call (some 89) 539 false [((.v 86), false), ((.v 87), false), ((.v 88), false)]),
              (none, .asg 85 (.v 89) .move),
              (none, .ext 90 (.v 85) 0),
              (none, .extp 91 (.v 85) 1),
              (none, .asg 21 (.v 90) .move),
              (none, .asg 22 (.v 91) .copy)])
            (.seq
             (.region [(93, 0, false)] [] [5, 6, 7, 8, 9, 10, 11, 12, 13, 14, 15, 16, 17, 18, 19, 20, 21, 22, 23, 24, 25] false [
               (none, .mv 93 (.v 0)),
               (none, .call (some 94) 476 false [((.v 93), false)]),
               (none, .asg 92 (.v 94) .move),
               (none, .ext 95 (.v 92) 0),
               (none, .extp 96 (.v 92) 1),
               (none, .extp 97 (.v 92) 2),
               (none, .asg 23 (.v 95) .move),
               (none, .asg 24 (.v 96) .copy),
               (none, .asg 25 (.v 97) .copy)])
             (.seq
              (.region [(99, 23, false)] [] [5, 6, 7, 8, 9, 10, 11, 12, 13, 14, 15, 16, 17, 18, 19, 20, 21, 22, 23, 24, 25, 26, 27] false [
                (none, .mv 99 (.v 23)),
                (none, .mv 100 (.v 24)),
                (none, .mv 101 (.v 25)),
                (none, .call (some 102) 109 false [((.v 99), false), ((.v 100), false), ((.v 101), false)]),
                (none, .asg 98 (.v 102) .move),
                (none, .ext 103 (.v 98) 0),
                (none, .extp 104 (.v 98) 1),
                (none, .asg 26 (.v 103) .move),
                (none, .asg 27 (.v 104) .copy)])
              (.seq
               (.region [(106, 23, false)] [] [5, 6, 7, 8, 9, 10, 11, 12, 13, 14, 15, 16, 17, 18, 19, 20, 21, 22, 23, 24, 25, 26, 27, 28, 29] false [
                 (none, .mv 106 (.v 23)),
                 (none, .mv 107 (.v 24)),
                 (none, .mv 108 (.v 25)),
                 (none, .call (some 109) 530 false [((.v 106), false), ((.v 107), false), ((.v 108), false)]),
                 (none, .asg 105 (.v 109) .move),
                 (none, .ext 110 (.v 105) 0),
                 (none, .extp 111 (.v 105) 1),
                 (none, .asg 28 (.v 110) .move),
                 (none, .asg 29 (.v 111) .copy)])
               (.seq
                (.seq
                 (.region [(153, 28, false), (152, 26, false), (142, 21, false), (141, 19, false)] [] [5, 7, 8, 12, 13, 14, 16, 17, 18, 20, 21, 23, 24, 25, 27, 28, 156] false [
                   (none, .mv 112 (.v 7)),
                   (none, .mv 113 (.v 9)),
                   (none, .bin 114 .neq (.v 112) (.v 113)),
                   (none, .mv 115 (.v 114)),
                   (some (115, false), .mv 116 (.v 6)),
                   (some (115, false), .mv 117 (.v 8)),
                   (some (115, false), .eqb 118 true (.v 116) (.v 117)),
                   (none, .pick 119 (.v 115) (.c (.bool true)) (.v 118)),
                   (none, .mv 120 (.v 119)),
                   (some (120, false), .mv 121 (.v 12)),
                   (some (120, false), .mv 122 (.v 15)),
                   (some (120, false), .bin 123 .neq (.v 121) (.v 122)),
                   (none, .pick 124 (.v 120) (.c (.bool true)) (.v 123)),
                   (none, .mv 125 (.v 124)),
                   (some (125, false), .mv 126 (.v 10)),
                   (some (125, false), .mv 127 (.v 13)),
                   (some (125, false), .bin 128 .neq (.v 126) (.v 127)),
                   (none, .pick 129 (.v 125) (.c (.bool true)) (.v 128)),
                   (none, .mv 130 (.v 129)),
                   (some (130, false), .mv 131 (.v 11)),
                   (some (130, false), .mv 132 (.v 14)),
                   (some (130, false), .bin 133 .neq (.v 131) (.v 132)),
                   (none, .pick 134 (.v 130) (.c (.bool true)) (.v 133)),
                   (none, .mv 135 (.v 134)),
                   (some (135, false), .mv 136 (.v 20)),
                   (some (135, false), .mv 137 (.v 22)),
                   (some (135, false), .bin 138 .neq (.v 136) (.v 137)),
                   (none, .pick 139 (.v 135) (.c (.bool true)) (.v 138)),
                   (none, .mv 140 (.v 139)),
                   (some (140, false), .mv 141 (.v 19)),
                   (some (140, false), .mv 142 (.v 21)),
                   (some (140, false), .call (some 143) 400 false [((.v 141), false), ((.v 142), false)]),
                   (some (140, false), .un 144 .not (.v 143)),
                   (none, .pick 145 (.v 140) (.c (.bool true)) (.v 144)),
                   (none, .mv 146 (.v 145)),
                   (some (146, false), .mv 147 (.v 27)),
                   (some (146, false), .mv 148 (.v 29)),
                   (some (146, false), .bin 149 .neq (.v 147) (.v 148)),
                   (none, .pick 150 (.v 146) (.c (.bool true)) (.v 149)),
                   (none, .mv 151 (.v 150)),
                   (some (151, false), .mv 152 (.v 26)),
                   (some (151, false), .mv 153 (.v 28)),
                   (some (151, false), .call (some 154) 400 false [((.v 152), false), ((.v 153), false)]),
                   (some (151, false), .un 155 .not (.v 154)),
                   (none, .pick 156 (.v 151) (.c (.bool true)) (.v 155))])
                 (.cond (.v 156)
                  (.seq
                   (.region [] [] [2] false [
                     (none, .asg 2 (.c (.bool false)) .copy)])
                   (.ret [2]))
                  (.skip [5, 7, 8, 12, 13, 14, 16, 17, 18, 20, 21, 23, 24, 25, 27, 28])))
                (.seq
                 (.seq
                  (.region [] [] [5, 7, 8, 12, 13, 14, 16, 17, 18, 21, 23, 24, 25, 27, 28, 158] false [
                    (none, .mv 157 (.v 20)),
                    (none, .bin 158 .eql (.v 157) (.c (.int .i64 0)))])
                  (.cond (.v 158)
                   (.seq
                    (.region [] [] [5, 7, 8, 12, 13, 14, 16, 17, 18, 21, 23, 24, 25, 27, 28, 30] false [
                      (none, .asg 30 (.c (.int .i64 0)) .copy)])
                    (.block 0
                     (.loop
                      (.seq
                       (.seq
                        (.region [(160, 18, false)] [] [5, 7, 8, 12, 13, 14, 16, 17, 18, 21, 23, 24, 25, 27, 28, 30, 162] false [
                          (none, .mv 159 (.v 30)),
                          (none, .mv 160 (.v 18)),
                          (none, .len 161 false (.v 160)),
                          (none, .bin 162 .lss (.v 159) (.v 161))])
                        (.cond (.v 162)
                         (.skip [5, 7, 8, 12, 13, 14, 16, 17, 18, 21, 23, 24, 25, 27, 28, 30])
                         (.exit 0 [5, 7, 8, 12, 13, 14, 23, 24, 25, 27, 28])))
                       (.seq
                        (.block 1
                         (.seq
                          (.region [(170, 18, false), (168, 18, false)] [] [5, 7, 8, 12, 13, 14, 16, 17, 18, 21, 23, 24, 25, 27, 28, 30, 31, 32] true [
                            (none, .load 166 true 3 (.v 16) none),
                            (none, .mv 167 (.v 17)),
                            (none, .mvr 168 18),
                            (none, .mv 169 (.v 30)),
                            (none, .iadr 170 1 (.v 168) (.v 169)),
                            (none, .load 171 false 1 (.v 170) none),
                            (none, .call (some 172) 194 false [((.v 166), false), ((.v 167), false), ((.v 171), false)]),
                            (none, .asg 165 (.v 172) .copy),
                            (none, .extp 173 (.v 165) 0),
                            (none, .extp 174 (.v 165) 1),
                            (none, .asg 31 (.v 173) .copy),
                            (none, .asg 32 (.v 174) .copy)])
                          (.seq
                           (.region [(179, 21, false)] [] [5, 7, 8, 12, 13, 14, 16, 17, 18, 21, 23, 24, 25, 27, 28, 30, 183] false [
                             (none, .mv 175 (.v 32)),
                             (none, .bin 176 .neq (.v 175) (.c (.int .i64 0))),
                             (none, .mv 177 (.v 176)),
                             (some (177, false), .mv 178 (.v 31)),
                             (some (177, false), .mv 179 (.v 21)),
                             (some (177, false), .mv 180 (.v 30)),
                             (some (177, false), .call (some 181) 399 false [((.v 179), false), ((.v 180), false)]),
                             (some (177, false), .eqb 182 true (.v 178) (.v 181)),
                             (none, .pick 183 (.v 177) (.c (.bool true)) (.v 182))])
                           (.cond (.v 183)
                            (.seq
                             (.region [] [] [2] false [
                               (none, .asg 2 (.c (.bool false)) .copy)])
                             (.ret [2]))
                            (.skip [5, 7, 8, 12, 13, 14, 16, 17, 18, 21, 23, 24, 25, 27, 28, 30])))))
                        (.region [] [] [5, 7, 8, 12, 13, 14, 16, 17, 18, 21, 23, 24, 25, 27, 28, 30] false [
                          (none, .mv 163 (.v 30)),
                          (none, .bin 164 .add (.v 163) (.c (.int .i64 1))),
                          (none, .asg 30 (.v 164) .copy)]))))))
                   (.skip [5, 7, 8, 12, 13, 14, 23, 24, 25, 27, 28])))
                 (.seq
                  (.seq
                   (.region [] [] [5, 7, 8, 12, 13, 14, 23, 24, 25, 28, 185] false [
                     (none, .mv 184 (.v 27)),
                     (none, .bin 185 .eql (.v 184) (.c (.int .i64 0)))])
                   (.cond (.v 185)
                    (.seq
                     (.region [] [] [5, 7, 8, 12, 13, 14, 23, 24, 25, 28, 33] false [
                       (none, .asg 33 (.c (.int .i64 0)) .copy)])
                     (.block 2
                      (.loop
                       (.seq
                        (.seq
                         (.region [(187, 23, false)] [] [5, 7, 8, 12, 13, 14, 23, 24, 25, 28, 33, 189] false [
                           (none, .mv 186 (.v 33)),
                           (none, .mv 187 (.v 23)),
                           (none, .len 188 false (.v 187)),
                           (none, .bin 189 .lss (.v 186) (.v 188))])
                         (.cond (.v 189)
                          (.skip [5, 7, 8, 12, 13, 14, 23, 24, 25, 28, 33])
                          (.exit 2 [5, 7, 8, 12, 13, 14])))
                        (.seq
                         (.block 3
                          (.seq
                           (.region [(195, 23, false), (193, 23, false)] [] [5, 7, 8, 12, 13, 14, 23, 24, 25, 28, 33, 34, 35] false [
                             (none, .mv 193 (.v 23)),
                             (none, .mv 194 (.v 33)),
                             (none, .iadr 195 3 (.v 193) (.v 194)),
                             (none, .load 196 true 3 (.v 195) none),
                             (none, .mv 197 (.v 24)),
                             (none, .mv 198 (.v 25)),
                             (none, .call (some 199) 194 false [((.v 196), false), ((.v 197), false), ((.v 198), false)]),
                             (none, .asg 192 (.v 199) .copy),
                             (none, .extp 200 (.v 192) 0),
                             (none, .extp 201 (.v 192) 1),
                             (none, .asg 34 (.v 200) .copy),
                             (none, .asg 35 (.v 201) .copy)])
                           (.seq
                            (.region [(206, 28, false)] [] [5, 7, 8, 12, 13, 14, 23, 24, 25, 28, 33, 210] false [
                              (none, .mv 202 (.v 35)),
                              (none, .bin 203 .neq (.v 202) (.c (.int .i64 0))),
                              (none, .mv 204 (.v 203)),
                              (some (204, false), .mv 205 (.v 34)),
                              (some (204, false), .mv 206 (.v 28)),
                              (some (204, false), .mv 207 (.v 33)),
                              (some (204, false), .call (some 208) 399 false [((.v 206), false), ((.v 207), false)]),
                              (some (204, false), .eqb 209 true (.v 205) (.v 208)),
                              (none, .pick 210 (.v 204) (.c (.bool true)) (.v 209))])
                            (.cond (.v 210)
                             (.seq
                              (.region [] [] [2] false [
                                (none, .asg 2 (.c (.bool false)) .copy)])
                              (.ret [2]))
                             (.skip [5, 7, 8, 12, 13, 14, 23, 24, 25, 28, 33])))))
                         (.region [] [] [5, 7, 8, 12, 13, 14, 23, 24, 25, 28, 33] false [
                           (none, .mv 190 (.v 33)),
                           (none, .bin 191 .add (.v 190) (.c (.int .i64 1))),
                           (none, .asg 33 (.v 191) .copy)]))))))
                    (.skip [5, 7, 8, 12, 13, 14])))
                  (.seq
                   (.seq
                    (.region [] [] [5, 12, 13, 14, 216] false [
                      (none, .mv 211 (.v 7)),
                      (none, .bin 212 .neq (.v 211) (.c (.int .i64 0))),
                      (none, .mv 213 (.v 212)),
                      (some (213, false), .mv 214 (.v 8)),
                      (some (213, false), .un 215 .not (.v 214)),
                      (none, .pick 216 (.v 213) (.c (.bool true)) (.v 215))])
                    (.cond (.v 216)
                     (.seq
                      (.region [] [] [2] false [
                        (none, .asg 2 (.c (.bool true)) .copy)])
                      (.ret [2]))
                     (.skip [5, 12, 13, 14])))
                   (.seq
                    (.region [] [] [2] false [
                      (none, .mv 217 (.v 12)),
                      (none, .bin 218 .eql (.v 217) (.c (.int .i64 0))),
                      (none, .mv 219 (.v 218)),
                      (some (219, true), .mv 220 (.v 5)),
                      (some (219, true), .mv 221 (.v 13)),
                      (some (219, true), .bin 222 .geq (.v 220) (.v 221)),
                      (none, .pick 223 (.v 219) (.v 222) (.c (.bool false))),
                      (none, .mv 224 (.v 223)),
                      (some (224, true), .mv 225 (.v 5)),
                      (some (224, true), .mv 226 (.v 14)),
                      (some (224, true), .bin 227 .leq (.v 225) (.v 226)),
                      (none, .pick 228 (.v 224) (.v 227) (.c (.bool false))),
                      (none, .asg 2 (.v 228) .copy)])
                    (.ret [2])))))))))))))))))))⟩
def tabl : List (Nat × PFunc) := [(326, F326), (275, F275), (288, F288), (818, F818), (796, F796), (287, F287), (270, F270), (314, F314), (281, F281), (322, F322), (101, F101), (219, F219), (824, F824), (802, F802), (218, F218), (109, F109), (128, F128), (194, F194), (398, F398), (399, F399), (400, F400), (603, F603), (5, F5), (7, F7), (6, F6), (679, F679), (4, F4), (683, F683), (672, F672), (673, F673), (674, F674), (476, F476), (670, F670), (675, F675), (480, F480), (503, F503), (605, F605), (681, F681), (682, F682), (685, F685), (524, F524), (676, F676), (680, F680), (530, F530), (684, F684), (539, F539), (579, F579), (360, F360)]
def T : Nat → Option PFunc := tabOf tabl
end Go.Vs.G
