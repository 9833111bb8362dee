/- The functions that the law reaches, in the small language, printed by program. No conditions. -/
import Derived.Test.YtnfoleedampcnaaDXSameTitles
import Derived.Test.YtnfoleedampcnaaV4
set_option maxRecDepth 100000
open Go Go.Vs
namespace Go.Vs.G
def F814 : PFunc :=
 ⟨[false, false], [.tmp 4],
  (.seq
   (.region [] [] [0, 1] false [
     (none, .asg 4 (.c (.bool false)) .copy)])
   (.seq
    (.seq
     (.region [(8, 1, false), (6, 0, false)] [] [0, 1, 10] false [
       (none, .mv 6 (.v 0)),
       (none, .len 7 false (.v 6)),
       (none, .mv 8 (.v 1)),
       (none, .len 9 false (.v 8)),
       (none, .bin 10 .neq (.v 7) (.v 9))])
     (.cond (.v 10)
      (.seq
       (.region [] [] [4] false [
         (none, .asg 4 (.c (.bool false)) .copy)])
       (.ret [4]))
      (.skip [0, 1])))
    (.seq
     (.seq
      (.region [(11, 0, false)] [] [0, 1, 12, 13] false [
        (none, .mv 11 (.v 0)),
        (none, .len 12 false (.v 11)),
        (none, .mv 13 (.c (.int .i64 0)))])
      (.block 0
       (.loop
        (.seq
         (.region [] [] [0, 1, 12, 13, 14] false [
           (none, .bin 14 .lss (.v 13) (.v 12))])
         (.seq
          (.cond (.v 14)
           (.skip [0, 1, 12, 13])
           (.exit 0 []))
          (.seq
           (.block 1
            (.seq
             (.region [] [] [0, 1, 5, 12, 13] false [
               (none, .mv 15 (.v 13)),
               (none, .asg 5 (.v 15) .copy)])
             (.seq
              (.region [(22, 1, false), (20, 1, false), (18, 0, false), (16, 0, false)] [] [0, 1, 12, 13, 24] true [
                (none, .mv 16 (.v 0)),
                (none, .mv 17 (.v 5)),
                (none, .iadr 18 4 (.v 16) (.v 17)),
                (none, .load 19 true 4 (.v 18) none),
                (none, .mv 20 (.v 1)),
                (none, .mv 21 (.v 5)),
                (none, .iadr 22 4 (.v 20) (.v 21)),
                (none, .load 23 true 4 (.v 22) none),
                (none, .eqv 24 true [.i, .s, .i, .i] (.v 19) (.v 23))])
              (.cond (.v 24)
               (.seq
                (.region [] [] [4] false [
                  (none, .asg 4 (.c (.bool false)) .copy)])
                (.ret [4]))
               (.skip [0, 1, 12, 13])))))
           (.region [] [] [0, 1, 12, 13] false [
             (none, .bin 25 .add (.v 13) (.c (.int .i64 1))),
             (none, .mv 13 (.v 25))])))))))
     (.seq
      (.region [] [] [4] false [
        (none, .asg 4 (.c (.bool true)) .copy)])
      (.ret [4])))))⟩
def F173 : PFunc :=
 ⟨[false, false], [.tmp 4],
  (.seq
   (.region [] [] [0, 1] false [
     (none, .asg 4 (.c (.bool false)) .copy)])
   (.seq
    (.region [(6, 1, false), (5, 0, false)] [] [4] false [
      (none, .mv 5 (.v 0)),
      (none, .mv 6 (.v 1)),
      (none, .call (some 7) 814 false [((.v 5), false), ((.v 6), false)]),
      (none, .asg 4 (.v 7) .copy)])
    (.ret [4])))⟩
def F395 : PFunc :=
 ⟨[false, false], [.tmp 4],
  (.seq
   (.region [] [] [2, 3] false [
     (none, .box 2 (.v 0) .copy),
     (none, .box 3 (.v 1) .copy),
     (none, .asg 4 (.c (.bool false)) .copy)])
   (.seq
    (.seq
     (.region [(7, 3, false), (5, 2, false)] [] [2, 3, 9] false [
       (none, .fadr 5 0 1 (.v 2)),
       (none, .load 6 false 1 (.v 5) none),
       (none, .fadr 7 0 1 (.v 3)),
       (none, .load 8 false 1 (.v 7) none),
       (none, .bin 9 .neq (.v 6) (.v 8))])
     (.cond (.v 9)
      (.seq
       (.region [] [] [4] false [
         (none, .asg 4 (.c (.bool false)) .copy)])
       (.ret [4]))
      (.skip [2, 3])))
    (.seq
     (.seq
      (.region [(12, 3, false), (10, 2, false)] [] [2, 3, 14] false [
        (none, .fadr 10 1 1 (.v 2)),
        (none, .load 11 false 1 (.v 10) none),
        (none, .fadr 12 1 1 (.v 3)),
        (none, .load 13 false 1 (.v 12) none),
        (none, .bin 14 .neq (.v 11) (.v 13))])
      (.cond (.v 14)
       (.seq
        (.region [] [] [4] false [
          (none, .asg 4 (.c (.bool false)) .copy)])
        (.ret [4]))
       (.skip [2, 3])))
     (.seq
      (.seq
       (.region [(17, 3, false), (15, 2, false)] [] [2, 3, 19] false [
         (none, .fadr 15 2 1 (.v 2)),
         (none, .load 16 false 1 (.v 15) none),
         (none, .fadr 17 2 1 (.v 3)),
         (none, .load 18 false 1 (.v 17) none),
         (none, .bin 19 .neq (.v 16) (.v 18))])
       (.cond (.v 19)
        (.seq
         (.region [] [] [4] false [
           (none, .asg 4 (.c (.bool false)) .copy)])
         (.ret [4]))
        (.skip [2, 3])))
      (.seq
       (.seq
        (.region [(22, 3, false), (20, 2, false)] [] [24] false [
          (none, .fadr 20 3 1 (.v 2)),
          (none, .load 21 false 1 (.v 20) none),
          (none, .fadr 22 3 1 (.v 3)),
          (none, .load 23 false 1 (.v 22) none),
          (none, .bin 24 .neq (.v 21) (.v 23))])
        (.cond (.v 24)
         (.seq
          (.region [] [] [4] false [
            (none, .asg 4 (.c (.bool false)) .copy)])
          (.ret [4]))
         (.skip [])))
       (.seq
        (.region [] [] [4] false [
          (none, .asg 4 (.c (.bool true)) .copy)])
        (.ret [4])))))))⟩
def F396 : PFunc :=
 ⟨[false, false], [.tmp 4],
  (.seq
   (.region [] [] [0, 1] false [
     (none, .asg 4 (.c (.bool false)) .copy)])
   (.seq
    (.seq
     (.region [(8, 1, false), (6, 0, false)] [] [0, 1, 10] false [
       (none, .mv 6 (.v 0)),
       (none, .len 7 false (.v 6)),
       (none, .mv 8 (.v 1)),
       (none, .len 9 false (.v 8)),
       (none, .bin 10 .neq (.v 7) (.v 9))])
     (.cond (.v 10)
      (.seq
       (.region [] [] [4] false [
         (none, .asg 4 (.c (.bool false)) .copy)])
       (.ret [4]))
      (.skip [0, 1])))
    (.seq
     (.seq
      (.region [] [] [0, 1, 5] false [
        (none, .asg 5 (.c (.int .i64 0)) .copy)])
      (.block 0
       (.loop
        (.seq
         (.seq
          (.region [(12, 0, false)] [] [0, 1, 5, 14] false [
            (none, .mv 11 (.v 5)),
            (none, .mv 12 (.v 0)),
            (none, .len 13 false (.v 12)),
            (none, .bin 14 .lss (.v 11) (.v 13))])
          (.cond (.v 14)
           (.skip [0, 1, 5])
           (.exit 0 [])))
         (.seq
          (.block 1
           (.seq
            (.region [(23, 1, false), (21, 1, false), (19, 0, false), (17, 0, false)] [] [0, 1, 5, 26] true [
              (none, .mv 17 (.v 0)),
              (none, .mv 18 (.v 5)),
              (none, .iadr 19 4 (.v 17) (.v 18)),
              (none, .load 20 true 4 (.v 19) none),
              (none, .mv 21 (.v 1)),
              (none, .mv 22 (.v 5)),
              (none, .iadr 23 4 (.v 21) (.v 22)),
              (none, .load 24 true 4 (.v 23) none),
              (none, .call (some 25) 395 false [((.v 20), false), ((.v 24), false)]),
              (none, .un 26 .not (.v 25))])
            (.cond (.v 26)
             (.seq
              (.region [] [] [4] false [
                (none, .asg 4 (.c (.bool false)) .copy)])
              (.ret [4]))
             (.skip [0, 1, 5]))))
          (.region [] [] [0, 1, 5] false [
            (none, .mv 15 (.v 5)),
            (none, .bin 16 .add (.v 15) (.c (.int .i64 1))),
            (none, .asg 5 (.v 16) .copy)]))))))
     (.seq
      (.region [] [] [4] false [
        (none, .asg 4 (.c (.bool true)) .copy)])
      (.ret [4])))))⟩
def F415 : PFunc :=
 ⟨[false, false], [.tmp 4],
  (.seq
   (.region [] [] [1, 2] false [
     (none, .box 2 (.v 0) .copy),
     (none, .asg 4 (.c (.int .i64 0)) .copy)])
   (.seq
    (.region [(6, 2, false)] [] [1] false [
      (none, .mv 5 (.v 1)),
      (none, .fadr 6 1 1 (.v 2)),
      (none, .load 7 false 1 (.v 6) none),
      (none, .len 8 true (.v 7)),
      (none, .bin 9 .sub (.v 5) (.v 8)),
      (none, .asg 1 (.v 9) .copy)])
    (.seq
     (.seq
      (.region [] [] [1, 11] false [
        (none, .mv 10 (.v 1)),
        (none, .bin 11 .lss (.v 10) (.c (.int .i64 0)))])
      (.cond (.v 11)
       (.seq
        (.region [] [] [4] false [
          (none, .asg 4 (.c (.int .i64 (-1))) .copy)])
        (.ret [4]))
       (.skip [1])))
     (.seq
      (.region [] [] [4] false [
        (none, .mv 12 (.v 1)),
        (none, .asg 4 (.v 12) .copy)])
      (.ret [4])))))⟩
def F416 : PFunc :=
 ⟨[false, false], [.tmp 4],
  (.seq
   (.region [] [] [0, 1] false [
     (none, .asg 4 (.c (.int .i64 0)) .copy)])
   (.seq
    (.region [(7, 0, false)] [] [0, 1] false [
      (none, .mv 6 (.v 1)),
      (none, .mv 7 (.v 0)),
      (none, .len 8 false (.v 7)),
      (none, .bin 9 .sub (.v 6) (.v 8)),
      (none, .asg 1 (.v 9) .copy)])
    (.seq
     (.seq
      (.region [] [] [0, 1, 11] false [
        (none, .mv 10 (.v 1)),
        (none, .bin 11 .lss (.v 10) (.c (.int .i64 0)))])
      (.cond (.v 11)
       (.seq
        (.region [] [] [4] false [
          (none, .asg 4 (.c (.int .i64 (-1))) .copy)])
        (.ret [4]))
       (.skip [0, 1])))
     (.seq
      (.seq
       (.region [] [] [0, 1, 5] false [
         (none, .asg 5 (.c (.int .i64 0)) .copy)])
       (.block 0
        (.loop
         (.seq
          (.seq
           (.region [(13, 0, false)] [] [0, 1, 5, 15] false [
             (none, .mv 12 (.v 5)),
             (none, .mv 13 (.v 0)),
             (none, .len 14 false (.v 13)),
             (none, .bin 15 .lss (.v 12) (.v 14))])
           (.cond (.v 15)
            (.skip [0, 1, 5])
            (.exit 0 [1])))
          (.seq
           (.block 1
            (.seq
             (.region [(20, 0, false), (18, 0, false)] [] [0, 1, 5] false [
               (none, .mv 18 (.v 0)),
               (none, .mv 19 (.v 5)),
               (none, .iadr 20 4 (.v 18) (.v 19)),
               (none, .load 21 true 4 (.v 20) none),
               (none, .mv 22 (.v 1)),
               (none, .call (some 23) 415 false [((.v 21), false), ((.v 22), false)]),
               (none, .asg 1 (.v 23) .copy)])
             (.seq
              (.region [] [] [0, 1, 5, 25] false [
                (none, .mv 24 (.v 1)),
                (none, .bin 25 .lss (.v 24) (.c (.int .i64 0)))])
              (.cond (.v 25)
               (.seq
                (.region [] [] [4] false [
                  (none, .asg 4 (.c (.int .i64 (-1))) .copy)])
                (.ret [4]))
               (.skip [0, 1, 5])))))
           (.region [] [] [0, 1, 5] false [
             (none, .mv 16 (.v 5)),
             (none, .bin 17 .add (.v 16) (.c (.int .i64 1))),
             (none, .asg 5 (.v 17) .copy)]))))))
      (.seq
       (.region [] [] [4] false [
         (none, .mv 26 (.v 1)),
         (none, .asg 4 (.v 26) .copy)])
       (.ret [4]))))))⟩
def F421 : PFunc :=
 ⟨[false], [.cell 2 true 4],
  (.seq
   (.region [] [] [1, 2] false [
     (none, .box 1 (.v 0) .copy),
     (none, .new 2 (.agg [(.int .i64 0), (.str []), (.int .i64 0), (.int .i64 0)]))])
   (.seq
    (.region [] [] [1, 2, 3] false [
      (none, .new 3 (.agg [(.int .i64 0), (.str []), (.int .i64 0), (.int .i64 0)]))])
    (.seq
     (.region [(6, 3, false), (4, 1, false)] [] [1, 2, 3] false [
       (none, .fadr 4 0 1 (.v 1)),
       (none, .load 5 false 1 (.v 4) none),
       (none, .fadr 6 0 1 (.v 3)),
       (none, .store 1 (.v 6) (.v 5) .copy)])
     (.seq
      (.region [(9, 3, false), (7, 1, false)] [] [1, 2, 3] false [
        (none, .fadr 7 1 1 (.v 1)),
        (none, .load 8 false 1 (.v 7) none),
        (none, .fadr 9 1 1 (.v 3)),
        (none, .store 1 (.v 9) (.v 8) .copy)])
      (.seq
       (.region [(12, 3, false), (10, 1, false)] [] [1, 2, 3] false [
         (none, .fadr 10 2 1 (.v 1)),
         (none, .load 11 false 1 (.v 10) none),
         (none, .fadr 12 2 1 (.v 3)),
         (none, .store 1 (.v 12) (.v 11) .copy)])
       (.seq
        (.region [(15, 3, false), (13, 1, false)] [] [2, 3] false [
          (none, .fadr 13 3 1 (.v 1)),
          (none, .load 14 false 1 (.v 13) none),
          (none, .fadr 15 3 1 (.v 3)),
          (none, .store 1 (.v 15) (.v 14) .copy)])
        (.seq
         (.region [] [] [2] false [
           (none, .load 16 true 4 (.v 3) none),
           (none, .store 4 (.v 2) (.v 16) .copy)])
         (.ret [2]))))))))⟩
def F422 : PFunc :=
 ⟨[false], [.tmp 2],
  (.seq
   (.region [] [] [0] false [
     (none, .asg 2 (.c (.sl true 4 [])) .copy)])
   (.seq
    (.region [(5, 0, false)] [] [0, 3] false [
      (none, .mv 5 (.v 0)),
      (none, .len 6 false (.v 5)),
      (none, .make 7 4 (.agg [(.int .i64 0), (.str []), (.int .i64 0), (.int .i64 0)]) (.v 6)),
      (none, .asg 3 (.v 7) .move)])
    (.seq
     (.seq
      (.region [] [] [0, 3, 4] false [
        (none, .asg 4 (.c (.int .i64 0)) .copy)])
      (.block 0
       (.loop
        (.seq
         (.seq
          (.region [(9, 0, false)] [] [0, 3, 4, 11] false [
            (none, .mv 8 (.v 4)),
            (none, .mv 9 (.v 0)),
            (none, .len 10 false (.v 9)),
            (none, .bin 11 .lss (.v 8) (.v 10))])
          (.cond (.v 11)
           (.skip [0, 3, 4])
           (.exit 0 [3])))
         (.seq
          (.block 1
           (.region [(21, 3, false), (18, 0, false), (16, 0, false), (14, 3, false)] [] [0, 3, 4] false [
             (none, .mv 14 (.v 3)),
             (none, .mv 15 (.v 4)),
             (none, .mv 16 (.v 0)),
             (none, .mv 17 (.v 4)),
             (none, .iadr 18 4 (.v 16) (.v 17)),
             (none, .load 19 true 4 (.v 18) none),
             (none, .call (some 20) 421 false [((.v 19), false)]),
             (none, .iadr 21 4 (.v 14) (.v 15)),
             (none, .store 4 (.v 21) (.v 20) .copy)]))
          (.region [] [] [0, 3, 4] false [
            (none, .mv 12 (.v 4)),
            (none, .bin 13 .add (.v 12) (.c (.int .i64 1))),
            (none, .asg 4 (.v 13) .copy)]))))))
     (.seq
      (.region [(22, 3, false)] [] [2] false [
        (none, .mv 22 (.v 3)),
        (none, .asg 2 (.v 22) .move)])
      (.ret [2])))))⟩
def F564 : PFunc :=
 ⟨[false, false], [.tmp 4],
  (.seq
   (.region [] [] [0, 1] false [
     (none, .asg 4 (.c (.bool false)) .copy)])
   (.seq
    (.seq
     (.region [(8, 1, false), (6, 0, false)] [] [0, 1, 10] false [
       (none, .mv 6 (.v 0)),
       (none, .len 7 false (.v 6)),
       (none, .mv 8 (.v 1)),
       (none, .len 9 false (.v 8)),
       (none, .bin 10 .neq (.v 7) (.v 9))])
     (.cond (.v 10)
      (.seq
       (.region [] [] [4] false [
         (none, .asg 4 (.c (.bool false)) .copy)])
       (.ret [4]))
      (.skip [0, 1])))
    (.seq
     (.seq
      (.region [] [] [0, 1, 5] false [
        (none, .asg 5 (.c (.int .i64 0)) .copy)])
      (.block 0
       (.loop
        (.seq
         (.seq
          (.region [(12, 0, false)] [] [0, 1, 5, 14] false [
            (none, .mv 11 (.v 5)),
            (none, .mv 12 (.v 0)),
            (none, .len 13 false (.v 12)),
            (none, .bin 14 .lss (.v 11) (.v 13))])
          (.cond (.v 14)
           (.skip [0, 1, 5])
           (.exit 0 [])))
         (.seq
          (.block 1
           (.seq
            (.region [(23, 1, false), (21, 1, false), (19, 0, false), (17, 0, false)] [] [0, 1, 5, 25] true [
              (none, .mv 17 (.v 0)),
              (none, .mv 18 (.v 5)),
              (none, .iadr 19 4 (.v 17) (.v 18)),
              (none, .load 20 true 4 (.v 19) none),
              (none, .mv 21 (.v 1)),
              (none, .mv 22 (.v 5)),
              (none, .iadr 23 4 (.v 21) (.v 22)),
              (none, .load 24 true 4 (.v 23) none),
              (none, .eqv 25 true [.i, .s, .i, .i] (.v 20) (.v 24))])
            (.cond (.v 25)
             (.seq
              (.region [] [] [4] false [
                (none, .asg 4 (.c (.bool false)) .copy)])
              (.ret [4]))
             (.skip [0, 1, 5]))))
          (.region [] [] [0, 1, 5] false [
            (none, .mv 15 (.v 5)),
            (none, .bin 16 .add (.v 15) (.c (.int .i64 1))),
            (none, .asg 5 (.v 16) .copy)]))))))
     (.seq
      (.region [] [] [4] false [
        (none, .asg 4 (.c (.bool true)) .copy)])
      (.ret [4])))))⟩
def F346 : PFunc :=
 ⟨[false, false], [.tmp 4],
  (.seq
   (.region [] [] [0, 1] false [
     (none, .asg 4 (.c (.bool false)) .copy)])
   (.seq
    (.region [] [] [0, 1, 5] false [
      (none, .asg 5 (.c (.int .i64 1048576)) .copy)])
    (.seq
     (.region [(10, 0, false)] [] [0, 1, 5] false [
       (none, .mv 10 (.v 0)),
       (none, .mv 11 (.v 5)),
       (none, .call (some 12) 416 false [((.v 10), false), ((.v 11), false)]),
       (none, .asg 5 (.v 12) .copy)])
     (.seq
      (.seq
       (.region [] [] [0, 1, 5, 14] false [
         (none, .mv 13 (.v 5)),
         (none, .bin 14 .lss (.v 13) (.c (.int .i64 0)))])
       (.cond (.v 14)
        (.seq
         (.region [] [] [4] false [
           (none, .asg 4 (.c (.bool true)) .copy)])
         (.ret [4]))
        (.skip [0, 1, 5])))
      (.seq
       (.region [(15, 1, false)] [] [0, 1, 5] false [
         (none, .mv 15 (.v 1)),
         (none, .mv 16 (.v 5)),
         (none, .call (some 17) 416 false [((.v 15), false), ((.v 16), false)]),
         (none, .asg 5 (.v 17) .copy)])
       (.seq
        (.seq
         (.region [] [] [0, 1, 19] false [
           (none, .mv 18 (.v 5)),
           (none, .bin 19 .lss (.v 18) (.c (.int .i64 0)))])
         (.cond (.v 19)
          (.seq
           (.region [] [] [4] false [
             (none, .asg 4 (.c (.bool true)) .copy)])
           (.ret [4]))
          (.skip [0, 1])))
        (.seq
         (.region [(22, 1, false), (20, 0, false)] [] [0, 1, 6] false [
           (none, .mv 20 (.v 0)),
           (none, .call (some 21) 422 false [((.v 20), false)]),
           (none, .mv 22 (.v 1)),
           (none, .call (some 23) 422 false [((.v 22), false)]),
           (none, .call (some 24) 564 false [((.v 21), false), ((.v 23), false)]),
           (none, .asg 6 (.v 24) .copy)])
         (.seq
          (.region [(25, 0, false)] [] [0, 1, 6, 7] false [
            (none, .mv 25 (.v 0)),
            (none, .call (some 26) 422 false [((.v 25), false)]),
            (none, .asg 7 (.v 26) .move)])
          (.seq
           (.region [(27, 1, false)] [] [0, 1, 6, 7, 8] false [
             (none, .mv 27 (.v 1)),
             (none, .call (some 28) 422 false [((.v 27), false)]),
             (none, .asg 8 (.v 28) .move)])
           (.seq
            (.region [(30, 8, false), (29, 7, false)] [] [0, 1, 6, 7, 8, 9] false [
              (none, .mv 29 (.v 7)),
              (none, .mv 30 (.v 8)),
              (none, .call (some 31) 173 false [((.v 29), false), ((.v 30), false)]),
              (none, .asg 9 (.v 31) .copy)])
            (.seq
             (.seq
              (.region [] [] [0, 1, 7, 8, 34] false [
                (none, .mv 32 (.v 9)),
                (none, .mv 33 (.v 6)),
                (none, .eqb 34 true (.v 32) (.v 33))])
              (.cond (.v 34)
               (.seq
                (.region [] [] [4] false [
                  (none, .asg 4 (.c (.bool false)) .copy)])
                (.ret [4]))
               (.skip [0, 1, 7, 8])))
             (.seq
              (.seq
               (.region [(36, 0, false), (35, 7, false)] [] [1, 8, 39] false [
                 (none, .mv 35 (.v 7)),
                 (none, .mv 36 (.v 0)),
                 (none, .call (some 37) 422 false [((.v 36), false)]),
                 (none, .call (some 38) 396 false [((.v 35), false), ((.v 37), false)]),
                 (none, .un 39 .not (.v 38))])
               (.cond (.v 39)
                (.seq
                 (.region [] [] [4] false [
                   (none, .asg 4 (.c (.bool false)) .copy)])
                 (.ret [4]))
                (.skip [1, 8])))
              (.seq
               (.seq
                (.region [(41, 1, false), (40, 8, false)] [] [44] false [
                  (none, .mv 40 (.v 8)),
                  (none, .mv 41 (.v 1)),
                  (none, .call (some 42) 422 false [((.v 41), false)]),
                  (none, .call (some 43) 396 false [((.v 40), false), ((.v 42), false)]),
                  (none, .un 44 .not (.v 43))])
                (.cond (.v 44)
                 (.seq
                  (.region [] [] [4] false [
                    (none, .asg 4 (.c (.bool false)) .copy)])
                  (.ret [4]))
                 (.skip [])))
               (.seq
                (.region [] [] [4] false [
                  (none, .asg 4 (.c (.bool true)) .copy)])
                (.ret [4])))))))))))))))⟩
def tabl : List (Nat × PFunc) := [(814, F814), (173, F173), (395, F395), (396, F396), (415, F415), (416, F416), (421, F421), (422, F422), (564, F564), (346, F346)]
def T : Nat → Option PFunc := tabOf tabl
end Go.Vs.G
