/- The functions that the law reaches, in the small language, printed by program. No conditions. -/
import Derived.Test.YtnfoleedampcnaaDXWholeTitles
import Derived.Test.YtnfoleedampcnaaV4
set_option maxRecDepth 100000
open Go Go.Vs
namespace Go.Vs.G
def F116 : PFunc :=
 ⟨[false], [.tmp 2],
  (.seq
   (.region [] [] [0] false [
     (none, .asg 2 (.c (.bool false)) .copy)])
   (.seq
    (.seq
     (.region [] [] [0, 21] false [
       (none, .mv 4 (.v 0)),
       (none, .len 5 true (.v 4)),
       (none, .bin 6 .lss (.v 5) (.c (.int .i64 1))),
       (none, .mv 7 (.v 6)),
       (some (7, false), .mv 8 (.v 0)),
       (some (7, false), .len 9 true (.v 8)),
       (some (7, false), .bin 10 .gtr (.v 9) (.c (.int .i64 12))),
       (none, .pick 11 (.v 7) (.c (.bool true)) (.v 10)),
       (none, .mv 12 (.v 11)),
       (some (12, false), .mv 13 (.v 0)),
       (some (12, false), .idx 14 (.v 13) (.c (.int .i64 0))),
       (some (12, false), .bin 15 .lss (.v 14) (.c (.int .u8 97))),
       (none, .pick 16 (.v 12) (.c (.bool true)) (.v 15)),
       (none, .mv 17 (.v 16)),
       (some (17, false), .mv 18 (.v 0)),
       (some (17, false), .idx 19 (.v 18) (.c (.int .i64 0))),
       (some (17, false), .bin 20 .gtr (.v 19) (.c (.int .u8 122))),
       (none, .pick 21 (.v 17) (.c (.bool true)) (.v 20))])
     (.cond (.v 21)
      (.seq
       (.region [] [] [2] false [
         (none, .asg 2 (.c (.bool false)) .copy)])
       (.ret [2]))
      (.skip [0])))
    (.seq
     (.seq
      (.region [] [] [0, 3] false [
        (none, .asg 3 (.c (.int .i64 1)) .copy)])
      (.block 0
       (.loop
        (.seq
         (.seq
          (.region [] [] [0, 3, 25] false [
            (none, .mv 22 (.v 3)),
            (none, .mv 23 (.v 0)),
            (none, .len 24 true (.v 23)),
            (none, .bin 25 .lss (.v 22) (.v 24))])
          (.cond (.v 25)
           (.skip [0, 3])
           (.exit 0 [])))
         (.seq
          (.block 1
           (.seq
            (.region [] [] [0, 3, 55] false [
              (none, .mv 28 (.v 0)),
              (none, .mv 29 (.v 3)),
              (none, .idx 30 (.v 28) (.v 29)),
              (none, .bin 31 .lss (.v 30) (.c (.int .u8 97))),
              (none, .mv 32 (.v 31)),
              (some (32, false), .mv 33 (.v 0)),
              (some (32, false), .mv 34 (.v 3)),
              (some (32, false), .idx 35 (.v 33) (.v 34)),
              (some (32, false), .bin 36 .gtr (.v 35) (.c (.int .u8 122))),
              (none, .pick 37 (.v 32) (.c (.bool true)) (.v 36)),
              (none, .mv 38 (.v 37)),
              (some (38, true), .mv 39 (.v 0)),
              (some (38, true), .mv 40 (.v 3)),
              (some (38, true), .idx 41 (.v 39) (.v 40)),
              (some (38, true), .bin 42 .lss (.v 41) (.c (.int .u8 48))),
              (some (38, true), .mv 43 (.v 42)),
              (some (43, false), .mv 44 (.v 0)),
              (some (43, false), .mv 45 (.v 3)),
              (some (43, false), .idx 46 (.v 44) (.v 45)),
              (some (43, false), .bin 47 .gtr (.v 46) (.c (.int .u8 57))),
              (some (38, true), .pick 48 (.v 43) (.c (.bool true)) (.v 47)),
              (none, .pick 49 (.v 38) (.v 48) (.c (.bool false))),
              (none, .mv 50 (.v 49)),
              (some (50, true), .mv 51 (.v 0)),
              (some (50, true), .mv 52 (.v 3)),
              (some (50, true), .idx 53 (.v 51) (.v 52)),
              (some (50, true), .bin 54 .neq (.v 53) (.c (.int .u8 45))),
              (none, .pick 55 (.v 50) (.v 54) (.c (.bool false)))])
            (.cond (.v 55)
             (.seq
              (.region [] [] [2] false [
                (none, .asg 2 (.c (.bool false)) .copy)])
              (.ret [2]))
             (.skip [0, 3]))))
          (.region [] [] [0, 3] false [
            (none, .mv 26 (.v 3)),
            (none, .bin 27 .add (.v 26) (.c (.int .i64 1))),
            (none, .asg 3 (.v 27) .copy)]))))))
     (.seq
      (.region [] [] [2] false [
        (none, .asg 2 (.c (.bool true)) .copy)])
      (.ret [2])))))⟩
def F326 : PFunc :=
 ⟨[false, false, false], [.tmp 6],
  (.seq
   (.region [] [] [0, 1, 2] false [
     (none, .asg 6 (.c (.bool false)) .copy)])
   (.seq
    (.region [] [] [6] false [
      (none, .mv 7 (.v 0)),
      (none, .mv 8 (.v 1)),
      (none, .bin 9 .geq (.v 7) (.v 8)),
      (none, .mv 10 (.v 9)),
      (some (10, true), .mv 11 (.v 0)),
      (some (10, true), .mv 12 (.v 2)),
      (some (10, true), .bin 13 .leq (.v 11) (.v 12)),
      (none, .pick 14 (.v 10) (.v 13) (.c (.bool false))),
      (none, .asg 6 (.v 14) .copy)])
    (.ret [6])))⟩
def F324 : PFunc :=
 ⟨[false], [.tmp 2],
  (.seq
   (.region [] [] [1] false [
     (none, .box 1 (.v 0) .copy),
     (none, .asg 2 (.c (.bool false)) .copy)])
   (.seq
    (.region [(19, 1, false), (17, 1, false), (12, 1, false), (7, 1, false), (3, 1, false)] [] [2] false [
      (none, .fadr 3 0 1 (.v 1)),
      (none, .load 4 false 1 (.v 3) none),
      (none, .call (some 5) 326 false [((.v 4), false), ((.c (.int .i64 1)), false), ((.c (.int .i64 9999)), false)]),
      (none, .mv 6 (.v 5)),
      (some (6, true), .fadr 7 1 1 (.v 1)),
      (some (6, true), .load 8 false 1 (.v 7) none),
      (some (6, true), .call (some 9) 116 false [((.v 8), false)]),
      (none, .pick 10 (.v 6) (.v 9) (.c (.bool false))),
      (none, .mv 11 (.v 10)),
      (some (11, true), .fadr 12 2 1 (.v 1)),
      (some (11, true), .load 13 false 1 (.v 12) none),
      (some (11, true), .call (some 14) 326 false [((.v 13), false), ((.c (.int .i64 1)), false), ((.c (.int .i64 30)), false)]),
      (none, .pick 15 (.v 11) (.v 14) (.c (.bool false))),
      (none, .mv 16 (.v 15)),
      (some (16, true), .fadr 17 3 1 (.v 1)),
      (some (16, true), .load 18 false 1 (.v 17) none),
      (some (16, true), .fadr 19 2 1 (.v 1)),
      (some (16, true), .load 20 false 1 (.v 19) none),
      (some (16, true), .call (some 21) 326 false [((.v 18), false), ((.c (.int .i64 0)), false), ((.v 20), false)]),
      (none, .pick 22 (.v 16) (.v 21) (.c (.bool false))),
      (none, .asg 2 (.v 22) .copy)])
    (.ret [2])))⟩
def F235 : PFunc :=
 ⟨[false], [.tmp 2],
  (.seq
   (.region [] [] [0] false [
     (none, .asg 2 (.c (.bool false)) .copy)])
   (.seq
    (.seq
     (.region [(5, 0, false)] [] [0, 5, 6, 7] false [
       (none, .mv 5 (.v 0)),
       (none, .len 6 false (.v 5)),
       (none, .mv 7 (.c (.int .i64 0)))])
     (.block 0
      (.loop
       (.seq
        (.region [(5, 0, false)] [] [0, 5, 6, 7, 8] false [
          (none, .bin 8 .lss (.v 7) (.v 6))])
        (.seq
         (.cond (.v 8)
          (.skip [0, 5, 6, 7])
          (.exit 0 [0]))
         (.seq
          (.block 1
           (.seq
            (.region [(10, 0, false), (5, 0, false)] [] [0, 3, 4, 5, 6, 7] false [
              (none, .mv 9 (.v 7)),
              (none, .iadr 10 4 (.v 5) (.v 7)),
              (none, .load 11 true 4 (.v 10) none),
              (none, .new 4 (.agg [(.int .i64 0), (.str []), (.int .i64 0), (.int .i64 0)])),
              (none, .asg 3 (.v 9) .copy),
              (none, .store 4 (.v 4) (.v 11) .copy)])
            (.seq
             (.region [(25, 4, false), (23, 0, false), (22, 0, false), (19, 0, false), (5, 0, false)] [] [0, 5, 6, 7, 29] true [
               (none, .load 12 true 4 (.v 4) none),
               (none, .call (some 13) 324 false [((.v 12), false)]),
               (none, .un 14 .not (.v 13)),
               (none, .mv 15 (.v 14)),
               (some (15, false), .mv 16 (.v 3)),
               (some (15, false), .bin 17 .gtr (.v 16) (.c (.int .i64 0))),
               (some (15, false), .mv 18 (.v 17)),
               (some (18, true), .mv 19 (.v 0)),
               (some (18, true), .mv 20 (.v 3)),
               (some (18, true), .bin 21 .sub (.v 20) (.c (.int .i64 1))),
               (some (18, true), .iadr 22 4 (.v 19) (.v 21)),
               (some (18, true), .fadr 23 0 1 (.v 22)),
               (some (18, true), .load 24 false 1 (.v 23) none),
               (some (18, true), .fadr 25 0 1 (.v 4)),
               (some (18, true), .load 26 false 1 (.v 25) none),
               (some (18, true), .bin 27 .geq (.v 24) (.v 26)),
               (some (15, false), .pick 28 (.v 18) (.v 27) (.c (.bool false))),
               (none, .pick 29 (.v 15) (.c (.bool true)) (.v 28))])
             (.cond (.v 29)
              (.seq
               (.region [] [] [2] false [
                 (none, .asg 2 (.c (.bool false)) .copy)])
               (.ret [2]))
              (.skip [0, 5, 6, 7])))))
          (.region [(5, 0, false)] [] [0, 5, 6, 7] false [
            (none, .bin 30 .add (.v 7) (.c (.int .i64 1))),
            (none, .mv 7 (.v 30))])))))))
    (.seq
     (.region [(31, 0, false)] [] [2] false [
       (none, .mv 31 (.v 0)),
       (none, .len 32 false (.v 31)),
       (none, .bin 33 .leq (.v 32) (.c (.int .i64 20))),
       (none, .asg 2 (.v 33) .copy)])
     (.ret [2]))))⟩
def F239 : PFunc :=
 ⟨[false], [.tmp 2, .tmp 3],
  (.seq
   (.region [] [] [0] false [
     (none, .asg 2 (.c (.sl true 1 [])) .copy),
     (none, .asg 3 (.c (.int .i64 0)) .copy)])
   (.seq
    (.seq
     (.region [(7, 0, false)] [] [0, 9] false [
       (none, .mv 7 (.v 0)),
       (none, .call (some 8) 235 false [((.v 7), false)]),
       (none, .un 9 .not (.v 8))])
     (.cond (.v 9)
      (.seq
       (.region [] [] [2, 3] false [
         (none, .asg 2 (.c (.sl true 1 [])) .copy),
         (none, .asg 3 (.c (.int .i64 1)) .copy)])
       (.ret [2, 3]))
      (.skip [0])))
    (.seq
     (.region [] [] [0, 4] false [
       (none, .mksl 10 1 (.int .i64 0) 0 []),
       (none, .asg 4 (.v 10) .move)])
     (.seq
      (.seq
       (.region [(11, 0, false)] [] [0, 4, 11, 12, 13] false [
         (none, .mv 11 (.v 0)),
         (none, .len 12 false (.v 11)),
         (none, .mv 13 (.c (.int .i64 0)))])
       (.block 0
        (.loop
         (.seq
          (.region [(11, 0, false)] [] [0, 4, 11, 12, 13, 14] false [
            (none, .bin 14 .lss (.v 13) (.v 12))])
          (.seq
           (.cond (.v 14)
            (.skip [0, 4, 11, 12, 13])
            (.exit 0 [4]))
           (.seq
            (.block 1
             (.seq
              (.region [(15, 0, false), (11, 0, false)] [] [0, 4, 6, 11, 12, 13] false [
                (none, .iadr 15 4 (.v 11) (.v 13)),
                (none, .load 16 true 4 (.v 15) none),
                (none, .new 6 (.agg [(.int .i64 0), (.str []), (.int .i64 0), (.int .i64 0)])),
                (none, .store 4 (.v 6) (.v 16) .copy)])
              (.seq
               (.region [(17, 6, false), (11, 0, false)] [] [0, 4, 6, 11, 12, 13, 19] false [
                 (none, .fadr 17 3 1 (.v 6)),
                 (none, .load 18 false 1 (.v 17) none),
                 (none, .bin 19 .eql (.v 18) (.c (.int .i64 0)))])
               (.cond (.v 19)
                (.region [(21, 6, false), (20, 4, false), (11, 0, false)] [] [0, 4, 11, 12, 13] false [
                  (none, .mv 20 (.v 4)),
                  (none, .fadr 21 0 1 (.v 6)),
                  (none, .load 22 false 1 (.v 21) none),
                  (none, .mksl 23 1 (.int .i64 0) 1 [(0, (.v 22), .copy)]),
                  (none, .app 24 1 (.v 20) (.v 23) .move),
                  (none, .asg 4 (.v 24) .move)])
                (.skip [0, 4, 11, 12, 13])))))
            (.region [(11, 0, false)] [] [0, 4, 11, 12, 13] false [
              (none, .bin 25 .add (.v 13) (.c (.int .i64 1))),
              (none, .mv 13 (.v 25))])))))))
      (.seq
       (.region [(26, 4, false)] [] [2, 3] false [
         (none, .mv 26 (.v 4)),
         (none, .asg 2 (.v 26) .move),
         (none, .asg 3 (.c (.int .i64 0)) .copy)])
       (.ret [2, 3]))))))⟩
def F393 : PFunc :=
 ⟨[false, false], [.tmp 4],
  (.seq
   (.region [] [] [0, 1] false [
     (none, .asg 4 (.c (.bool false)) .copy)])
   (.seq
    (.seq
     (.region [(8, 1, false), (6, 0, false)] [] [0, 1, 10] false [
       (none, .mv 6 (.v 0)),
       (none, .len 7 false (.v 6)),
       (none, .mv 8 (.v 1)),
       (none, .len 9 false (.v 8)),
       (none, .bin 10 .neq (.v 7) (.v 9))])
     (.cond (.v 10)
      (.seq
       (.region [] [] [4] false [
         (none, .asg 4 (.c (.bool false)) .copy)])
       (.ret [4]))
      (.skip [0, 1])))
    (.seq
     (.seq
      (.region [] [] [0, 1, 5] false [
        (none, .asg 5 (.c (.int .i64 0)) .copy)])
      (.block 0
       (.loop
        (.seq
         (.seq
          (.region [(12, 0, false)] [] [0, 1, 5, 14] false [
            (none, .mv 11 (.v 5)),
            (none, .mv 12 (.v 0)),
            (none, .len 13 false (.v 12)),
            (none, .bin 14 .lss (.v 11) (.v 13))])
          (.cond (.v 14)
           (.skip [0, 1, 5])
           (.exit 0 [])))
         (.seq
          (.block 1
           (.seq
            (.region [(23, 1, false), (21, 1, false), (19, 0, false), (17, 0, false)] [] [0, 1, 5, 25] true [
              (none, .mv 17 (.v 0)),
              (none, .mv 18 (.v 5)),
              (none, .iadr 19 1 (.v 17) (.v 18)),
              (none, .load 20 false 1 (.v 19) none),
              (none, .mv 21 (.v 1)),
              (none, .mv 22 (.v 5)),
              (none, .iadr 23 1 (.v 21) (.v 22)),
              (none, .load 24 false 1 (.v 23) none),
              (none, .bin 25 .neq (.v 20) (.v 24))])
            (.cond (.v 25)
             (.seq
              (.region [] [] [4] false [
                (none, .asg 4 (.c (.bool false)) .copy)])
              (.ret [4]))
             (.skip [0, 1, 5]))))
          (.region [] [] [0, 1, 5] false [
            (none, .mv 15 (.v 5)),
            (none, .bin 16 .add (.v 15) (.c (.int .i64 1))),
            (none, .asg 5 (.v 16) .copy)]))))))
     (.seq
      (.region [] [] [4] false [
        (none, .asg 4 (.c (.bool true)) .copy)])
      (.ret [4])))))⟩
def F395 : PFunc :=
 ⟨[false, false], [.tmp 4],
  (.seq
   (.region [] [] [2, 3] false [
     (none, .box 2 (.v 0) .copy),
     (none, .box 3 (.v 1) .copy),
     (none, .asg 4 (.c (.bool false)) .copy)])
   (.seq
    (.seq
     (.region [(7, 3, false), (5, 2, false)] [] [2, 3, 9] false [
       (none, .fadr 5 0 1 (.v 2)),
       (none, .load 6 false 1 (.v 5) none),
       (none, .fadr 7 0 1 (.v 3)),
       (none, .load 8 false 1 (.v 7) none),
       (none, .bin 9 .neq (.v 6) (.v 8))])
     (.cond (.v 9)
      (.seq
       (.region [] [] [4] false [
         (none, .asg 4 (.c (.bool false)) .copy)])
       (.ret [4]))
      (.skip [2, 3])))
    (.seq
     (.seq
      (.region [(12, 3, false), (10, 2, false)] [] [2, 3, 14] false [
        (none, .fadr 10 1 1 (.v 2)),
        (none, .load 11 false 1 (.v 10) none),
        (none, .fadr 12 1 1 (.v 3)),
        (none, .load 13 false 1 (.v 12) none),
        (none, .bin 14 .neq (.v 11) (.v 13))])
      (.cond (.v 14)
       (.seq
        (.region [] [] [4] false [
          (none, .asg 4 (.c (.bool false)) .copy)])
        (.ret [4]))
       (.skip [2, 3])))
     (.seq
      (.seq
       (.region [(17, 3, false), (15, 2, false)] [] [2, 3, 19] false [
         (none, .fadr 15 2 1 (.v 2)),
         (none, .load 16 false 1 (.v 15) none),
         (none, .fadr 17 2 1 (.v 3)),
         (none, .load 18 false 1 (.v 17) none),
         (none, .bin 19 .neq (.v 16) (.v 18))])
       (.cond (.v 19)
        (.seq
         (.region [] [] [4] false [
           (none, .asg 4 (.c (.bool false)) .copy)])
         (.ret [4]))
        (.skip [2, 3])))
      (.seq
       (.seq
        (.region [(22, 3, false), (20, 2, false)] [] [24] false [
          (none, .fadr 20 3 1 (.v 2)),
          (none, .load 21 false 1 (.v 20) none),
          (none, .fadr 22 3 1 (.v 3)),
          (none, .load 23 false 1 (.v 22) none),
          (none, .bin 24 .neq (.v 21) (.v 23))])
        (.cond (.v 24)
         (.seq
          (.region [] [] [4] false [
            (none, .asg 4 (.c (.bool false)) .copy)])
          (.ret [4]))
         (.skip [])))
       (.seq
        (.region [] [] [4] false [
          (none, .asg 4 (.c (.bool true)) .copy)])
        (.ret [4])))))))⟩
def F396 : PFunc :=
 ⟨[false, false], [.tmp 4],
  (.seq
   (.region [] [] [0, 1] false [
     (none, .asg 4 (.c (.bool false)) .copy)])
   (.seq
    (.seq
     (.region [(8, 1, false), (6, 0, false)] [] [0, 1, 10] false [
       (none, .mv 6 (.v 0)),
       (none, .len 7 false (.v 6)),
       (none, .mv 8 (.v 1)),
       (none, .len 9 false (.v 8)),
       (none, .bin 10 .neq (.v 7) (.v 9))])
     (.cond (.v 10)
      (.seq
       (.region [] [] [4] false [
         (none, .asg 4 (.c (.bool false)) .copy)])
       (.ret [4]))
      (.skip [0, 1])))
    (.seq
     (.seq
      (.region [] [] [0, 1, 5] false [
        (none, .asg 5 (.c (.int .i64 0)) .copy)])
      (.block 0
       (.loop
        (.seq
         (.seq
          (.region [(12, 0, false)] [] [0, 1, 5, 14] false [
            (none, .mv 11 (.v 5)),
            (none, .mv 12 (.v 0)),
            (none, .len 13 false (.v 12)),
            (none, .bin 14 .lss (.v 11) (.v 13))])
          (.cond (.v 14)
           (.skip [0, 1, 5])
           (.exit 0 [])))
         (.seq
          (.block 1
           (.seq
            (.region [(23, 1, false), (21, 1, false), (19, 0, false), (17, 0, false)] [] [0, 1, 5, 26] true [
              (none, .mv 17 (.v 0)),
              (none, .mv 18 (.v 5)),
              (none, .iadr 19 4 (.v 17) (.v 18)),
              (none, .load 20 true 4 (.v 19) none),
              (none, .mv 21 (.v 1)),
              (none, .mv 22 (.v 5)),
              (none, .iadr 23 4 (.v 21) (.v 22)),
              (none, .load 24 true 4 (.v 23) none),
              (none, .call (some 25) 395 false [((.v 20), false), ((.v 24), false)]),
              (none, .un 26 .not (.v 25))])
            (.cond (.v 26)
             (.seq
              (.region [] [] [4] false [
                (none, .asg 4 (.c (.bool false)) .copy)])
              (.ret [4]))
             (.skip [0, 1, 5]))))
          (.region [] [] [0, 1, 5] false [
            (none, .mv 15 (.v 5)),
            (none, .bin 16 .add (.v 15) (.c (.int .i64 1))),
            (none, .asg 5 (.v 16) .copy)]))))))
     (.seq
      (.region [] [] [4] false [
        (none, .asg 4 (.c (.bool true)) .copy)])
      (.ret [4])))))⟩
def F405 : PFunc :=
 ⟨[false, false], [.tmp 4],
  (.seq
   (.region [] [] [0, 1] false [
     (none, .asg 4 (.c (.int .i64 0)) .copy)])
   (.seq
    (.seq
     (.region [] [] [0, 1, 5] false [
       (none, .asg 5 (.c (.int .i64 0)) .copy)])
     (.block 0
      (.loop
       (.seq
        (.seq
         (.region [(7, 0, false)] [] [0, 1, 5, 9] false [
           (none, .mv 6 (.v 5)),
           (none, .mv 7 (.v 0)),
           (none, .len 8 false (.v 7)),
           (none, .bin 9 .lss (.v 6) (.v 8))])
         (.cond (.v 9)
          (.skip [0, 1, 5])
          (.exit 0 [1])))
        (.seq
         (.block 1
          (.seq
           (.seq
            (.region [(14, 0, false), (12, 0, false)] [] [0, 1, 5, 17] false [
              (none, .mv 12 (.v 0)),
              (none, .mv 13 (.v 5)),
              (none, .iadr 14 1 (.v 12) (.v 13)),
              (none, .load 15 false 1 (.v 14) none),
              (none, .mv 16 (.v 1)),
              (none, .bin 17 .neq (.v 15) (.v 16))])
            (.cond (.v 17)
             (.seq
              (.region [] [] [4] false [
                (none, .asg 4 (.c (.int .i64 (-1))) .copy)])
              (.ret [4]))
             (.skip [0, 1, 5])))
           (.region [] [] [0, 1, 5] false [
             (none, .mv 18 (.v 1)),
             (none, .bin 19 .add (.v 18) (.c (.int .i64 1))),
             (none, .asg 1 (.v 19) .copy)])))
         (.region [] [] [0, 1, 5] false [
           (none, .mv 10 (.v 5)),
           (none, .bin 11 .add (.v 10) (.c (.int .i64 1))),
           (none, .asg 5 (.v 11) .copy)]))))))
    (.seq
     (.region [] [] [4] false [
       (none, .mv 20 (.v 1)),
       (none, .asg 4 (.v 20) .copy)])
     (.ret [4]))))⟩
def F408 : PFunc :=
 ⟨[true, false], [.tmp 4],
  (.seq
   (.region [] [] [0, 1] false [
     (none, .asg 4 (.c (.int .i64 0)) .copy)])
   (.seq
    (.seq
     (.region [] [] [0, 1, 5] false [
       (none, .asg 5 (.c (.int .i64 0)) .copy)])
     (.block 0
      (.loop
       (.seq
        (.seq
         (.region [(7, 0, false)] [] [0, 1, 5, 9] false [
           (none, .mv 6 (.v 5)),
           (none, .mv 7 (.v 0)),
           (none, .len 8 false (.v 7)),
           (none, .bin 9 .lss (.v 6) (.v 8))])
         (.cond (.v 9)
          (.skip [0, 1, 5])
          (.exit 0 [0, 1])))
        (.seq
         (.block 1
          (.seq
           (.region [(15, 0, false), (12, 0, false)] [] [0, 1, 5] false [
             (none, .mv 12 (.v 0)),
             (none, .mv 13 (.v 5)),
             (none, .mv 14 (.v 1)),
             (none, .iadr 15 1 (.v 12) (.v 13)),
             (none, .store 1 (.v 15) (.v 14) .copy)])
           (.region [] [] [0, 1, 5] false [
             (none, .mv 16 (.v 1)),
             (none, .bin 17 .add (.v 16) (.c (.int .i64 1))),
             (none, .asg 1 (.v 17) .copy)])))
         (.region [] [] [0, 1, 5] false [
           (none, .mv 10 (.v 5)),
           (none, .bin 11 .add (.v 10) (.c (.int .i64 1))),
           (none, .asg 5 (.v 11) .copy)]))))))
    (.seq
     (.region [] [] [0, 4] false [
       (none, .mv 18 (.v 1)),
       (none, .asg 4 (.v 18) .copy)])
     (.ret [0, 4]))))⟩
def F410 : PFunc :=
 ⟨[false], [.tmp 2],
  (.seq
   (.region [] [] [0] false [
     (none, .asg 2 (.c (.str [])) .copy)])
   (.seq
    (.seq
     (.region [] [] [0, 5] false [
       (none, .mv 4 (.v 0)),
       (none, .bin 5 .leq (.v 4) (.c (.int .i64 0)))])
     (.cond (.v 5)
      (.seq
       (.region [] [] [2] false [
         (none, .asg 2 (.c (.str [109, 48])) .copy)])
       (.ret [2]))
      (.skip [0])))
    (.seq
     (.region [] [] [0, 3] false [
       (none, .asg 3 (.c (.str [])) .copy)])
     (.seq
      (.block 0
       (.loop
        (.seq
         (.seq
          (.region [] [] [0, 3, 7] false [
            (none, .mv 6 (.v 0)),
            (none, .bin 7 .gtr (.v 6) (.c (.int .i64 0)))])
          (.cond (.v 7)
           (.skip [0, 3])
           (.exit 0 [3])))
         (.block 1
          (.seq
           (.region [] [] [0, 3] false [
             (none, .mv 8 (.v 0)),
             (none, .bin 9 .rem (.v 8) (.c (.int .i64 10))),
             (none, .bin 10 .add (.c (.int .i64 48)) (.v 9)),
             (none, .conv 11 .u8 (.v 10)),
             (none, .mksl 12 1 (.int .u8 0) 1 [(0, (.v 11), .copy)]),
             (none, .b2s 13 (.v 12)),
             (none, .mv 14 (.v 3)),
             (none, .bin 15 .add (.v 13) (.v 14)),
             (none, .asg 3 (.v 15) .copy)])
           (.region [] [] [0, 3] false [
             (none, .mv 16 (.v 0)),
             (none, .bin 17 .quo (.v 16) (.c (.int .i64 10))),
             (none, .asg 0 (.v 17) .copy)]))))))
      (.seq
       (.region [] [] [2] false [
         (none, .mv 18 (.v 3)),
         (none, .bin 19 .add (.c (.str [109])) (.v 18)),
         (none, .asg 2 (.v 19) .copy)])
       (.ret [2]))))))⟩
def F411 : PFunc :=
 ⟨[true, false], [.tmp 4],
  (.seq
   (.region [] [] [0, 1] false [
     (none, .asg 4 (.c (.int .i64 0)) .copy)])
   (.seq
    (.seq
     (.region [] [] [0, 1, 5] false [
       (none, .asg 5 (.c (.int .i64 0)) .copy)])
     (.block 0
      (.loop
       (.seq
        (.seq
         (.region [(7, 0, false)] [] [0, 1, 5, 9] false [
           (none, .mv 6 (.v 5)),
           (none, .mv 7 (.v 0)),
           (none, .len 8 false (.v 7)),
           (none, .bin 9 .lss (.v 6) (.v 8))])
         (.cond (.v 9)
          (.skip [0, 1, 5])
          (.exit 0 [0, 1])))
        (.seq
         (.block 1
          (.seq
           (.region [(16, 0, false), (15, 0, false), (12, 0, false)] [] [0, 1, 5] false [
             (none, .mv 12 (.v 0)),
             (none, .mv 13 (.v 5)),
             (none, .mv 14 (.v 1)),
             (none, .iadr 15 4 (.v 12) (.v 13)),
             (none, .fadr 16 0 1 (.v 15)),
             (none, .store 1 (.v 16) (.v 14) .copy)])
           (.seq
            (.region [] [] [0, 1, 5] false [
              (none, .mv 17 (.v 1)),
              (none, .bin 18 .add (.v 17) (.c (.int .i64 1))),
              (none, .asg 1 (.v 18) .copy)])
            (.seq
             (.region [(24, 0, false), (23, 0, false), (19, 0, false)] [] [0, 1, 5] false [
               (none, .mv 19 (.v 0)),
               (none, .mv 20 (.v 5)),
               (none, .mv 21 (.v 1)),
               (none, .call (some 22) 410 false [((.v 21), false)]),
               (none, .iadr 23 4 (.v 19) (.v 20)),
               (none, .fadr 24 1 1 (.v 23)),
               (none, .store 1 (.v 24) (.v 22) .copy)])
             (.seq
              (.region [] [] [0, 1, 5] false [
                (none, .mv 25 (.v 1)),
                (none, .bin 26 .add (.v 25) (.c (.int .i64 1))),
                (none, .asg 1 (.v 26) .copy)])
              (.seq
               (.region [(31, 0, false), (30, 0, false), (27, 0, false)] [] [0, 1, 5] false [
                 (none, .mv 27 (.v 0)),
                 (none, .mv 28 (.v 5)),
                 (none, .mv 29 (.v 1)),
                 (none, .iadr 30 4 (.v 27) (.v 28)),
                 (none, .fadr 31 2 1 (.v 30)),
                 (none, .store 1 (.v 31) (.v 29) .copy)])
               (.seq
                (.region [] [] [0, 1, 5] false [
                  (none, .mv 32 (.v 1)),
                  (none, .bin 33 .add (.v 32) (.c (.int .i64 1))),
                  (none, .asg 1 (.v 33) .copy)])
                (.seq
                 (.region [(38, 0, false), (37, 0, false), (34, 0, false)] [] [0, 1, 5] false [
                   (none, .mv 34 (.v 0)),
                   (none, .mv 35 (.v 5)),
                   (none, .mv 36 (.v 1)),
                   (none, .iadr 37 4 (.v 34) (.v 35)),
                   (none, .fadr 38 3 1 (.v 37)),
                   (none, .store 1 (.v 38) (.v 36) .copy)])
                 (.region [] [] [0, 1, 5] false [
                   (none, .mv 39 (.v 1)),
                   (none, .bin 40 .add (.v 39) (.c (.int .i64 1))),
                   (none, .asg 1 (.v 40) .copy)])))))))))
         (.region [] [] [0, 1, 5] false [
           (none, .mv 10 (.v 5)),
           (none, .bin 11 .add (.v 10) (.c (.int .i64 1))),
           (none, .asg 5 (.v 11) .copy)]))))))
    (.seq
     (.region [] [] [0, 4] false [
       (none, .mv 41 (.v 1)),
       (none, .asg 4 (.v 41) .copy)])
     (.ret [0, 4]))))⟩
def F415 : PFunc :=
 ⟨[false, false], [.tmp 4],
  (.seq
   (.region [] [] [1, 2] false [
     (none, .box 2 (.v 0) .copy),
     (none, .asg 4 (.c (.int .i64 0)) .copy)])
   (.seq
    (.region [(6, 2, false)] [] [1] false [
      (none, .mv 5 (.v 1)),
      (none, .fadr 6 1 1 (.v 2)),
      (none, .load 7 false 1 (.v 6) none),
      (none, .len 8 true (.v 7)),
      (none, .bin 9 .sub (.v 5) (.v 8)),
      (none, .asg 1 (.v 9) .copy)])
    (.seq
     (.seq
      (.region [] [] [1, 11] false [
        (none, .mv 10 (.v 1)),
        (none, .bin 11 .lss (.v 10) (.c (.int .i64 0)))])
      (.cond (.v 11)
       (.seq
        (.region [] [] [4] false [
          (none, .asg 4 (.c (.int .i64 (-1))) .copy)])
        (.ret [4]))
       (.skip [1])))
     (.seq
      (.region [] [] [4] false [
        (none, .mv 12 (.v 1)),
        (none, .asg 4 (.v 12) .copy)])
      (.ret [4])))))⟩
def F416 : PFunc :=
 ⟨[false, false], [.tmp 4],
  (.seq
   (.region [] [] [0, 1] false [
     (none, .asg 4 (.c (.int .i64 0)) .copy)])
   (.seq
    (.region [(7, 0, false)] [] [0, 1] false [
      (none, .mv 6 (.v 1)),
      (none, .mv 7 (.v 0)),
      (none, .len 8 false (.v 7)),
      (none, .bin 9 .sub (.v 6) (.v 8)),
      (none, .asg 1 (.v 9) .copy)])
    (.seq
     (.seq
      (.region [] [] [0, 1, 11] false [
        (none, .mv 10 (.v 1)),
        (none, .bin 11 .lss (.v 10) (.c (.int .i64 0)))])
      (.cond (.v 11)
       (.seq
        (.region [] [] [4] false [
          (none, .asg 4 (.c (.int .i64 (-1))) .copy)])
        (.ret [4]))
       (.skip [0, 1])))
     (.seq
      (.seq
       (.region [] [] [0, 1, 5] false [
         (none, .asg 5 (.c (.int .i64 0)) .copy)])
       (.block 0
        (.loop
         (.seq
          (.seq
           (.region [(13, 0, false)] [] [0, 1, 5, 15] false [
             (none, .mv 12 (.v 5)),
             (none, .mv 13 (.v 0)),
             (none, .len 14 false (.v 13)),
             (none, .bin 15 .lss (.v 12) (.v 14))])
           (.cond (.v 15)
            (.skip [0, 1, 5])
            (.exit 0 [1])))
          (.seq
           (.block 1
            (.seq
             (.region [(20, 0, false), (18, 0, false)] [] [0, 1, 5] false [
               (none, .mv 18 (.v 0)),
               (none, .mv 19 (.v 5)),
               (none, .iadr 20 4 (.v 18) (.v 19)),
               (none, .load 21 true 4 (.v 20) none),
               (none, .mv 22 (.v 1)),
               (none, .call (some 23) 415 false [((.v 21), false), ((.v 22), false)]),
               (none, .asg 1 (.v 23) .copy)])
             (.seq
              (.region [] [] [0, 1, 5, 25] false [
                (none, .mv 24 (.v 1)),
                (none, .bin 25 .lss (.v 24) (.c (.int .i64 0)))])
              (.cond (.v 25)
               (.seq
                (.region [] [] [4] false [
                  (none, .asg 4 (.c (.int .i64 (-1))) .copy)])
                (.ret [4]))
               (.skip [0, 1, 5])))))
           (.region [] [] [0, 1, 5] false [
             (none, .mv 16 (.v 5)),
             (none, .bin 17 .add (.v 16) (.c (.int .i64 1))),
             (none, .asg 5 (.v 17) .copy)]))))))
      (.seq
       (.region [] [] [4] false [
         (none, .mv 26 (.v 1)),
         (none, .asg 4 (.v 26) .copy)])
       (.ret [4]))))))⟩
def F421 : PFunc :=
 ⟨[false], [.cell 2 true 4],
  (.seq
   (.region [] [] [1, 2] false [
     (none, .box 1 (.v 0) .copy),
     (none, .new 2 (.agg [(.int .i64 0), (.str []), (.int .i64 0), (.int .i64 0)]))])
   (.seq
    (.region [] [] [1, 2, 3] false [
      (none, .new 3 (.agg [(.int .i64 0), (.str []), (.int .i64 0), (.int .i64 0)]))])
    (.seq
     (.region [(6, 3, false), (4, 1, false)] [] [1, 2, 3] false [
       (none, .fadr 4 0 1 (.v 1)),
       (none, .load 5 false 1 (.v 4) none),
       (none, .fadr 6 0 1 (.v 3)),
       (none, .store 1 (.v 6) (.v 5) .copy)])
     (.seq
      (.region [(9, 3, false), (7, 1, false)] [] [1, 2, 3] false [
        (none, .fadr 7 1 1 (.v 1)),
        (none, .load 8 false 1 (.v 7) none),
        (none, .fadr 9 1 1 (.v 3)),
        (none, .store 1 (.v 9) (.v 8) .copy)])
      (.seq
       (.region [(12, 3, false), (10, 1, false)] [] [1, 2, 3] false [
         (none, .fadr 10 2 1 (.v 1)),
         (none, .load 11 false 1 (.v 10) none),
         (none, .fadr 12 2 1 (.v 3)),
         (none, .store 1 (.v 12) (.v 11) .copy)])
       (.seq
        (.region [(15, 3, false), (13, 1, false)] [] [2, 3] false [
          (none, .fadr 13 3 1 (.v 1)),
          (none, .load 14 false 1 (.v 13) none),
          (none, .fadr 15 3 1 (.v 3)),
          (none, .store 1 (.v 15) (.v 14) .copy)])
        (.seq
         (.region [] [] [2] false [
           (none, .load 16 true 4 (.v 3) none),
           (none, .store 4 (.v 2) (.v 16) .copy)])
         (.ret [2]))))))))⟩
def F422 : PFunc :=
 ⟨[false], [.tmp 2],
  (.seq
   (.region [] [] [0] false [
     (none, .asg 2 (.c (.sl true 4 [])) .copy)])
   (.seq
    (.region [(5, 0, false)] [] [0, 3] false [
      (none, .mv 5 (.v 0)),
      (none, .len 6 false (.v 5)),
      (none, .make 7 4 (.agg [(.int .i64 0), (.str []), (.int .i64 0), (.int .i64 0)]) (.v 6)),
      (none, .asg 3 (.v 7) .move)])
    (.seq
     (.seq
      (.region [] [] [0, 3, 4] false [
        (none, .asg 4 (.c (.int .i64 0)) .copy)])
      (.block 0
       (.loop
        (.seq
         (.seq
          (.region [(9, 0, false)] [] [0, 3, 4, 11] false [
            (none, .mv 8 (.v 4)),
            (none, .mv 9 (.v 0)),
            (none, .len 10 false (.v 9)),
            (none, .bin 11 .lss (.v 8) (.v 10))])
          (.cond (.v 11)
           (.skip [0, 3, 4])
           (.exit 0 [3])))
         (.seq
          (.block 1
           (.region [(21, 3, false), (18, 0, false), (16, 0, false), (14, 3, false)] [] [0, 3, 4] false [
             (none, .mv 14 (.v 3)),
             (none, .mv 15 (.v 4)),
             (none, .mv 16 (.v 0)),
             (none, .mv 17 (.v 4)),
             (none, .iadr 18 4 (.v 16) (.v 17)),
             (none, .load 19 true 4 (.v 18) none),
             (none, .call (some 20) 421 false [((.v 19), false)]),
             (none, .iadr 21 4 (.v 14) (.v 15)),
             (none, .store 4 (.v 21) (.v 20) .copy)]))
          (.region [] [] [0, 3, 4] false [
            (none, .mv 12 (.v 4)),
            (none, .bin 13 .add (.v 12) (.c (.int .i64 1))),
            (none, .asg 4 (.v 13) .copy)]))))))
     (.seq
      (.region [(22, 3, false)] [] [2] false [
        (none, .mv 22 (.v 3)),
        (none, .asg 2 (.v 22) .move)])
      (.ret [2])))))⟩
def F612 : PFunc :=
 ⟨[false], [.tmp 2],
  (.seq
   (.region [] [] [0] false [
     (none, .asg 2 (.c (.bool false)) .copy)])
   (.seq
    (.region [] [] [2] false [
      (none, .mv 3 (.v 0)),
      (none, .bin 4 .geq (.v 3) (.c (.int .u8 48))),
      (none, .mv 5 (.v 4)),
      (some (5, true), .mv 6 (.v 0)),
      (some (5, true), .bin 7 .leq (.v 6) (.c (.int .u8 57))),
      (none, .pick 8 (.v 5) (.v 7) (.c (.bool false))),
      (none, .asg 2 (.v 8) .copy)])
    (.ret [2])))⟩
def F613 : PFunc :=
 ⟨[false], [.tmp 2],
  (.seq
   (.region [] [] [0] false [
     (none, .asg 2 (.c (.bool false)) .copy)])
   (.seq
    (.region [] [] [2] false [
      (none, .mv 3 (.v 0)),
      (none, .bin 4 .geq (.v 3) (.c (.int .u8 97))),
      (none, .mv 5 (.v 4)),
      (some (5, true), .mv 6 (.v 0)),
      (some (5, true), .bin 7 .leq (.v 6) (.c (.int .u8 122))),
      (none, .pick 8 (.v 5) (.v 7) (.c (.bool false))),
      (none, .asg 2 (.v 8) .copy)])
    (.ret [2])))⟩
def F533 : PFunc :=
 ⟨[false], [.tmp 2],
  (.seq
   (.region [] [] [0] false [
     (none, .asg 2 (.c (.bool false)) .copy)])
   (.seq
    (.seq
     (.region [] [] [0, 16] false [
       (none, .mv 4 (.v 0)),
       (none, .bin 5 .eql (.v 4) (.c (.str []))),
       (none, .mv 6 (.v 5)),
       (some (6, false), .mv 7 (.v 0)),
       (some (6, false), .len 8 true (.v 7)),
       (some (6, false), .bin 9 .gtr (.v 8) (.c (.int .i64 12))),
       (none, .pick 10 (.v 6) (.c (.bool true)) (.v 9)),
       (none, .mv 11 (.v 10)),
       (some (11, false), .mv 12 (.v 0)),
       (some (11, false), .idx 13 (.v 12) (.c (.int .i64 0))),
       (some (11, false), .call (some 14) 613 false [((.v 13), false)]),
       (some (11, false), .un 15 .not (.v 14)),
       (none, .pick 16 (.v 11) (.c (.bool true)) (.v 15))])
     (.cond (.v 16)
      (.seq
       (.region [] [] [2] false [
         (none, .asg 2 (.c (.bool false)) .copy)])
       (.ret [2]))
      (.skip [0])))
    (.seq
     (.seq
      (.region [] [] [0, 3] false [
        (none, .asg 3 (.c (.int .i64 0)) .copy)])
      (.block 0
       (.loop
        (.seq
         (.seq
          (.region [] [] [0, 3, 20] false [
            (none, .mv 17 (.v 3)),
            (none, .mv 18 (.v 0)),
            (none, .len 19 true (.v 18)),
            (none, .bin 20 .lss (.v 17) (.v 19))])
          (.cond (.v 20)
           (.skip [0, 3])
           (.exit 0 [])))
         (.seq
          (.block 1
           (.seq
            (.region [] [] [0, 3, 40] false [
              (none, .mv 23 (.v 0)),
              (none, .mv 24 (.v 3)),
              (none, .idx 25 (.v 23) (.v 24)),
              (none, .call (some 26) 613 false [((.v 25), false)]),
              (none, .un 27 .not (.v 26)),
              (none, .mv 28 (.v 27)),
              (some (28, true), .mv 29 (.v 0)),
              (some (28, true), .mv 30 (.v 3)),
              (some (28, true), .idx 31 (.v 29) (.v 30)),
              (some (28, true), .call (some 32) 612 false [((.v 31), false)]),
              (some (28, true), .un 33 .not (.v 32)),
              (none, .pick 34 (.v 28) (.v 33) (.c (.bool false))),
              (none, .mv 35 (.v 34)),
              (some (35, true), .mv 36 (.v 0)),
              (some (35, true), .mv 37 (.v 3)),
              (some (35, true), .idx 38 (.v 36) (.v 37)),
              (some (35, true), .bin 39 .neq (.v 38) (.c (.int .u8 45))),
              (none, .pick 40 (.v 35) (.v 39) (.c (.bool false)))])
            (.cond (.v 40)
             (.seq
              (.region [] [] [2] false [
                (none, .asg 2 (.c (.bool false)) .copy)])
              (.ret [2]))
             (.skip [0, 3]))))
          (.region [] [] [0, 3] false [
            (none, .mv 21 (.v 3)),
            (none, .bin 22 .add (.v 21) (.c (.int .i64 1))),
            (none, .asg 3 (.v 22) .copy)]))))))
     (.seq
      (.region [] [] [2] false [
        (none, .asg 2 (.c (.bool true)) .copy)])
      (.ret [2])))))⟩
def F605 : PFunc :=
 ⟨[false, false, false], [.tmp 6],
  (.seq
   (.region [] [] [0, 1, 2] false [
     (none, .asg 6 (.c (.bool false)) .copy)])
   (.seq
    (.region [] [] [6] false [
      (none, .mv 7 (.v 0)),
      (none, .mv 8 (.v 1)),
      (none, .bin 9 .geq (.v 7) (.v 8)),
      (none, .mv 10 (.v 9)),
      (some (10, true), .mv 11 (.v 0)),
      (some (10, true), .mv 12 (.v 2)),
      (some (10, true), .bin 13 .leq (.v 11) (.v 12)),
      (none, .pick 14 (.v 10) (.v 13) (.c (.bool false))),
      (none, .asg 6 (.v 14) .copy)])
    (.ret [6])))⟩
def F777 : PFunc :=
 ⟨[false], [.tmp 2],
  (.seq
   (.region [] [] [0] false [
     (none, .asg 2 (.c (.bool false)) .copy)])
   (.seq
    (.region [(29, 0, false), (28, 0, false), (27, 0, false), (25, 0, false), (24, 0, false), (23, 0, false), (18, 0, false), (17, 0, false), (16, 0, false), (11, 0, false), (10, 0, false), (9, 0, false), (5, 0, false), (4, 0, false), (3, 0, false)] [] [2] true [
      (none, .mv 3 (.v 0)),
      (none, .nchk 4 (.v 3)),
      (none, .fadr 5 0 1 (.v 4)),
      (none, .load 6 false 1 (.v 5) none),
      (none, .call (some 7) 605 false [((.v 6), false), ((.c (.int .i64 1)), false), ((.c (.int .i64 9999)), false)]),
      (none, .mv 8 (.v 7)),
      (some (8, true), .mv 9 (.v 0)),
      (some (8, true), .nchk 10 (.v 9)),
      (some (8, true), .fadr 11 1 1 (.v 10)),
      (some (8, true), .load 12 false 1 (.v 11) none),
      (some (8, true), .call (some 13) 533 false [((.v 12), false)]),
      (none, .pick 14 (.v 8) (.v 13) (.c (.bool false))),
      (none, .mv 15 (.v 14)),
      (some (15, true), .mv 16 (.v 0)),
      (some (15, true), .nchk 17 (.v 16)),
      (some (15, true), .fadr 18 2 1 (.v 17)),
      (some (15, true), .load 19 false 1 (.v 18) none),
      (some (15, true), .call (some 20) 605 false [((.v 19), false), ((.c (.int .i64 1)), false), ((.c (.int .i64 30)), false)]),
      (none, .pick 21 (.v 15) (.v 20) (.c (.bool false))),
      (none, .mv 22 (.v 21)),
      (some (22, true), .mv 23 (.v 0)),
      (some (22, true), .nchk 24 (.v 23)),
      (some (22, true), .fadr 25 3 1 (.v 24)),
      (some (22, true), .load 26 false 1 (.v 25) none),
      (some (22, true), .mv 27 (.v 0)),
      (some (22, true), .nchk 28 (.v 27)),
      (some (22, true), .fadr 29 2 1 (.v 28)),
      (some (22, true), .load 30 false 1 (.v 29) none),
      (some (22, true), .call (some 31) 605 false [((.v 26), false), ((.c (.int .i64 0)), false), ((.v 30), false)]),
      (none, .pick 32 (.v 22) (.v 31) (.c (.bool false))),
      (none, .asg 2 (.v 32) .copy)])
    (.ret [2])))⟩
def F776 : PFunc :=
 ⟨[false], [.tmp 2],
  (.seq
   (.region [] [] [0] false [
     (none, .asg 2 (.c (.bool false)) .copy)])
   (.seq
    (.seq
     (.region [] [] [0, 3] false [
       (none, .asg 3 (.c (.int .i64 0)) .copy)])
     (.block 0
      (.loop
       (.seq
        (.seq
         (.region [(5, 0, false)] [] [0, 3, 7] false [
           (none, .mv 4 (.v 3)),
           (none, .mv 5 (.v 0)),
           (none, .len 6 false (.v 5)),
           (none, .bin 7 .lss (.v 4) (.v 6))])
         (.cond (.v 7)
          (.skip [0, 3])
          (.exit 0 [0])))
        (.seq
         (.block 1
          (.seq
           (.region [(28, 0, false), (27, 0, false), (25, 0, false), (23, 0, false), (22, 0, false), (19, 0, false), (12, 0, false), (10, 0, false)] [] [0, 3, 32] true [
             (none, .mv 10 (.v 0)),
             (none, .mv 11 (.v 3)),
             (none, .iadr 12 4 (.v 10) (.v 11)),
             (none, .call (some 13) 777 false [((.v 12), false)]),
             (none, .un 14 .not (.v 13)),
             (none, .mv 15 (.v 14)),
             (some (15, false), .mv 16 (.v 3)),
             (some (15, false), .bin 17 .gtr (.v 16) (.c (.int .i64 0))),
             (some (15, false), .mv 18 (.v 17)),
             (some (18, true), .mv 19 (.v 0)),
             (some (18, true), .mv 20 (.v 3)),
             (some (18, true), .bin 21 .sub (.v 20) (.c (.int .i64 1))),
             (some (18, true), .iadr 22 4 (.v 19) (.v 21)),
             (some (18, true), .fadr 23 0 1 (.v 22)),
             (some (18, true), .load 24 false 1 (.v 23) none),
             (some (18, true), .mv 25 (.v 0)),
             (some (18, true), .mv 26 (.v 3)),
             (some (18, true), .iadr 27 4 (.v 25) (.v 26)),
             (some (18, true), .fadr 28 0 1 (.v 27)),
             (some (18, true), .load 29 false 1 (.v 28) none),
             (some (18, true), .bin 30 .geq (.v 24) (.v 29)),
             (some (15, false), .pick 31 (.v 18) (.v 30) (.c (.bool false))),
             (none, .pick 32 (.v 15) (.c (.bool true)) (.v 31))])
           (.cond (.v 32)
            (.seq
             (.region [] [] [2] false [
               (none, .asg 2 (.c (.bool false)) .copy)])
             (.ret [2]))
            (.skip [0, 3]))))
         (.region [] [] [0, 3] false [
           (none, .mv 8 (.v 3)),
           (none, .bin 9 .add (.v 8) (.c (.int .i64 1))),
           (none, .asg 3 (.v 9) .copy)]))))))
    (.seq
     (.region [(33, 0, false)] [] [2] false [
       (none, .mv 33 (.v 0)),
       (none, .len 34 false (.v 33)),
       (none, .bin 35 .leq (.v 34) (.c (.int .i64 20))),
       (none, .asg 2 (.v 35) .copy)])
     (.ret [2]))))⟩
def F600 : PFunc :=
 ⟨[false], [.tmp 2, .tmp 3],
  (.seq
   (.region [] [] [0] false [
     (none, .asg 2 (.c (.sl true 1 [])) .copy),
     (none, .asg 3 (.c (.int .i64 0)) .copy)])
   (.seq
    (.seq
     (.region [(6, 0, false)] [] [0, 8] false [
       (none, .mv 6 (.v 0)),
       (none, .call (some 7) 776 false [((.v 6), false)]),
       (none, .un 8 .not (.v 7))])
     (.cond (.v 8)
      (.seq
       (.region [] [] [2, 3] false [
         (none, .asg 2 (.c (.sl true 1 [])) .copy),
         (none, .asg 3 (.c (.int .i64 1)) .copy)])
       (.ret [2, 3]))
      (.skip [0])))
    (.seq
     (.region [] [] [0, 4] false [
       (none, .mksl 9 1 (.int .i64 0) 0 []),
       (none, .asg 4 (.v 9) .move)])
     (.seq
      (.seq
       (.region [] [] [0, 4, 5] false [
         (none, .asg 5 (.c (.int .i64 0)) .copy)])
       (.block 0
        (.loop
         (.seq
          (.seq
           (.region [(11, 0, false)] [] [0, 4, 5, 13] false [
             (none, .mv 10 (.v 5)),
             (none, .mv 11 (.v 0)),
             (none, .len 12 false (.v 11)),
             (none, .bin 13 .lss (.v 10) (.v 12))])
           (.cond (.v 13)
            (.skip [0, 4, 5])
            (.exit 0 [4])))
          (.seq
           (.block 1
            (.seq
             (.region [(19, 0, false), (18, 0, false), (16, 0, false)] [] [0, 4, 5, 21] false [
               (none, .mv 16 (.v 0)),
               (none, .mv 17 (.v 5)),
               (none, .iadr 18 4 (.v 16) (.v 17)),
               (none, .fadr 19 3 1 (.v 18)),
               (none, .load 20 false 1 (.v 19) none),
               (none, .bin 21 .eql (.v 20) (.c (.int .i64 0)))])
             (.cond (.v 21)
              (.region [(26, 0, false), (25, 0, false), (23, 0, false), (22, 4, false)] [] [0, 4, 5] false [
                (none, .mv 22 (.v 4)),
                (none, .mv 23 (.v 0)),
                (none, .mv 24 (.v 5)),
                (none, .iadr 25 4 (.v 23) (.v 24)),
                (none, .fadr 26 0 1 (.v 25)),
                (none, .load 27 false 1 (.v 26) none),
                (none, .mksl 28 1 (.int .i64 0) 1 [(0, (.v 27), .copy)]),
                (none, .app 29 1 (.v 22) (.v 28) .move),
                (none, .asg 4 (.v 29) .move)])
              (.skip [0, 4, 5]))))
           (.region [] [] [0, 4, 5] false [
             (none, .mv 14 (.v 5)),
             (none, .bin 15 .add (.v 14) (.c (.int .i64 1))),
             (none, .asg 5 (.v 15) .copy)]))))))
      (.seq
       (.region [(30, 4, false)] [] [2, 3] false [
         (none, .mv 30 (.v 4)),
         (none, .asg 2 (.v 30) .move),
         (none, .asg 3 (.c (.int .i64 0)) .copy)])
       (.ret [2, 3]))))))⟩
def F352 : PFunc :=
 ⟨[false], [.tmp 2],
  (.seq
   (.region [] [] [0] false [
     (none, .asg 2 (.c (.bool false)) .copy)])
   (.seq
    (.region [] [] [0, 3] false [
      (none, .asg 3 (.c (.int .i64 1048576)) .copy)])
    (.seq
     (.region [(14, 0, false)] [] [0, 3] false [
       (none, .mv 14 (.v 0)),
       (none, .mv 15 (.v 3)),
       (none, .call (some 16) 416 false [((.v 14), false), ((.v 15), false)]),
       (none, .asg 3 (.v 16) .copy)])
     (.seq
      (.seq
       (.region [] [] [0, 18] false [
         (none, .mv 17 (.v 3)),
         (none, .bin 18 .lss (.v 17) (.c (.int .i64 0)))])
       (.cond (.v 18)
        (.seq
         (.region [] [] [2] false [
           (none, .asg 2 (.c (.bool true)) .copy)])
         (.ret [2]))
        (.skip [0])))
      (.seq
       (.region [(20, 0, false)] [] [0, 4, 5] false [
         (none, .mv 20 (.v 0)),
         (none, .call (some 21) 422 false [((.v 20), false)]),
         (none, .call (some 22) 600 false [((.v 21), false)]),
         (none, .asg 19 (.v 22) .move),
         (none, .ext 23 (.v 19) 0),
         (none, .ext 24 (.v 19) 1),
         (none, .asg 4 (.v 23) .move),
         (none, .asg 5 (.v 24) .copy)])
       (.seq
        (.region [(25, 0, false)] [] [0, 4, 5, 6] false [
          (none, .mv 25 (.v 0)),
          (none, .call (some 26) 422 false [((.v 25), false)]),
          (none, .asg 6 (.v 26) .move)])
        (.seq
         (.region [(28, 6, false)] [] [0, 4, 5, 6, 7, 8] false [
           (none, .mv 28 (.v 6)),
           (none, .call (some 29) 239 false [((.v 28), false)]),
           (none, .asg 27 (.v 29) .move),
           (none, .ext 30 (.v 27) 0),
           (none, .ext 31 (.v 27) 1),
           (none, .asg 7 (.v 30) .move),
           (none, .asg 8 (.v 31) .copy)])
         (.seq
          (.seq
           (.region [(33, 4, false), (32, 7, false)] [] [0, 4, 5, 6, 7, 8, 40] false [
             (none, .mv 32 (.v 7)),
             (none, .mv 33 (.v 4)),
             (none, .call (some 34) 393 false [((.v 32), false), ((.v 33), false)]),
             (none, .un 35 .not (.v 34)),
             (none, .mv 36 (.v 35)),
             (some (36, false), .mv 37 (.v 8)),
             (some (36, false), .mv 38 (.v 5)),
             (some (36, false), .bin 39 .neq (.v 37) (.v 38)),
             (none, .pick 40 (.v 36) (.c (.bool true)) (.v 39))])
           (.cond (.v 40)
            (.seq
             (.region [] [] [2] false [
               (none, .asg 2 (.c (.bool false)) .copy)])
             (.ret [2]))
            (.skip [0, 4, 5, 6, 7, 8])))
          (.seq
           (.seq
            (.region [(42, 0, false), (41, 6, false)] [] [0, 4, 5, 6, 7, 8, 45] false [
              (none, .mv 41 (.v 6)),
              (none, .mv 42 (.v 0)),
              (none, .call (some 43) 422 false [((.v 42), false)]),
              (none, .call (some 44) 396 false [((.v 41), false), ((.v 43), false)]),
              (none, .un 45 .not (.v 44))])
            (.cond (.v 45)
             (.seq
              (.region [] [] [2] false [
                (none, .asg 2 (.c (.bool false)) .copy)])
              (.ret [2]))
             (.skip [0, 4, 5, 6, 7, 8])))
           (.seq
            (.region [] [] [0, 4, 5, 6, 7, 8, 9] false [
              (none, .asg 9 (.c (.int .i64 1)) .copy)])
            (.seq
             (.region [(46, 6, false)] [] [0, 4, 5, 7, 8, 9] false [
               (none, .mv 46 (.v 6)),
               (none, .mv 47 (.v 9)),
               (none, .call (some 48) 411 false [((.v 46), true), ((.v 47), false)]),
               (none, .asg 9 (.v 48) .copy)])
             (.seq
              (.seq
               (.region [(53, 4, false), (52, 7, false)] [] [0, 4, 5, 7, 61] false [
                 (none, .mv 49 (.v 9)),
                 (none, .bin 50 .lss (.v 49) (.c (.int .i64 0))),
                 (none, .mv 51 (.v 50)),
                 (some (51, false), .mv 52 (.v 7)),
                 (some (51, false), .mv 53 (.v 4)),
                 (some (51, false), .call (some 54) 393 false [((.v 52), false), ((.v 53), false)]),
                 (some (51, false), .un 55 .not (.v 54)),
                 (none, .pick 56 (.v 51) (.c (.bool true)) (.v 55)),
                 (none, .mv 57 (.v 56)),
                 (some (57, false), .mv 58 (.v 8)),
                 (some (57, false), .mv 59 (.v 5)),
                 (some (57, false), .bin 60 .neq (.v 58) (.v 59)),
                 (none, .pick 61 (.v 57) (.c (.bool true)) (.v 60))])
               (.cond (.v 61)
                (.seq
                 (.region [] [] [2] false [
                   (none, .asg 2 (.c (.bool false)) .copy)])
                 (.ret [2]))
                (.skip [0, 4, 5, 7])))
              (.seq
               (.region [] [] [0, 4, 5, 7, 10] false [
                 (none, .asg 10 (.c (.int .i64 1)) .copy)])
               (.seq
                (.region [(62, 7, false)] [] [0, 4, 5, 7, 10] false [
                  (none, .mv 62 (.v 7)),
                  (none, .mv 63 (.v 10)),
                  (none, .call (some 64) 408 false [((.v 62), true), ((.v 63), false)]),
                  (none, .asg 10 (.v 64) .copy)])
                (.seq
                 (.region [] [] [0, 4, 5, 7, 10, 11] false [
                   (none, .asg 11 (.c (.int .i64 1)) .copy)])
                 (.seq
                  (.region [(65, 7, false)] [] [0, 4, 5, 7, 10, 11] false [
                    (none, .mv 65 (.v 7)),
                    (none, .mv 66 (.v 11)),
                    (none, .call (some 67) 405 false [((.v 65), false), ((.v 66), false)]),
                    (none, .asg 11 (.v 67) .copy)])
                  (.seq
                   (.seq
                    (.region [] [] [0, 4, 5, 7, 10, 11, 69] false [
                      (none, .mv 68 (.v 11)),
                      (none, .bin 69 .lss (.v 68) (.c (.int .i64 0)))])
                    (.cond (.v 69)
                     (.seq
                      (.region [] [] [2] false [
                        (none, .asg 2 (.c (.bool false)) .copy)])
                      (.ret [2]))
                     (.skip [0, 4, 5, 7, 10, 11])))
                   (.seq
                    (.seq
                     (.region [] [] [0, 4, 5, 7, 10, 72] false [
                       (none, .mv 70 (.v 11)),
                       (none, .mv 71 (.v 10)),
                       (none, .bin 72 .neq (.v 70) (.v 71))])
                     (.cond (.v 72)
                      (.seq
                       (.region [] [] [2] false [
                         (none, .asg 2 (.c (.bool false)) .copy)])
                       (.ret [2]))
                      (.skip [0, 4, 5, 7, 10])))
                    (.seq
                     (.region [(74, 0, false)] [] [4, 5, 7, 10, 12, 13] false [
                       (none, .mv 74 (.v 0)),
                       (none, .call (some 75) 422 false [((.v 74), false)]),
                       (none, .call (some 76) 239 false [((.v 75), false)]),
                       (none, .asg 73 (.v 76) .move),
                       (none, .ext 77 (.v 73) 0),
                       (none, .ext 78 (.v 73) 1),
                       (none, .asg 12 (.v 77) .move),
                       (none, .asg 13 (.v 78) .copy)])
                     (.seq
                      (.seq
                       (.region [(80, 4, false), (79, 12, false)] [] [7, 10, 87] false [
                         (none, .mv 79 (.v 12)),
                         (none, .mv 80 (.v 4)),
                         (none, .call (some 81) 393 false [((.v 79), false), ((.v 80), false)]),
                         (none, .un 82 .not (.v 81)),
                         (none, .mv 83 (.v 82)),
                         (some (83, false), .mv 84 (.v 13)),
                         (some (83, false), .mv 85 (.v 5)),
                         (some (83, false), .bin 86 .neq (.v 84) (.v 85)),
                         (none, .pick 87 (.v 83) (.c (.bool true)) (.v 86))])
                       (.cond (.v 87)
                        (.seq
                         (.region [] [] [2] false [
                           (none, .asg 2 (.c (.bool false)) .copy)])
                         (.ret [2]))
                        (.skip [7, 10])))
                      (.seq
                       (.region [] [] [7, 10, 11] false [
                         (none, .asg 11 (.c (.int .i64 1)) .copy)])
                       (.seq
                        (.region [(88, 7, false)] [] [10, 11] false [
                          (none, .mv 88 (.v 7)),
                          (none, .mv 89 (.v 11)),
                          (none, .call (some 90) 405 false [((.v 88), false), ((.v 89), false)]),
                          (none, .asg 11 (.v 90) .copy)])
                        (.seq
                         (.seq
                          (.region [] [] [10, 11, 92] false [
                            (none, .mv 91 (.v 11)),
                            (none, .bin 92 .lss (.v 91) (.c (.int .i64 0)))])
                          (.cond (.v 92)
                           (.seq
                            (.region [] [] [2] false [
                              (none, .asg 2 (.c (.bool false)) .copy)])
                            (.ret [2]))
                           (.skip [10, 11])))
                         (.seq
                          (.seq
                           (.region [] [] [95] false [
                             (none, .mv 93 (.v 11)),
                             (none, .mv 94 (.v 10)),
                             (none, .bin 95 .neq (.v 93) (.v 94))])
                           (.cond (.v 95)
                            (.seq
                             (.region [] [] [2] false [
                               (none, .asg 2 (.c (.bool false)) .copy)])
                             (.ret [2]))
                            (.skip [])))
                          (.seq
                           (.region [] [] [2] false [
                             (none, .asg 2 (.c (.bool true)) .copy)])
                           (.ret [2]))))))))))))))))))))))))))⟩
def tabl : List (Nat × PFunc) := [(116, F116), (326, F326), (324, F324), (235, F235), (239, F239), (393, F393), (395, F395), (396, F396), (405, F405), (408, F408), (410, F410), (411, F411), (415, F415), (416, F416), (421, F421), (422, F422), (612, F612), (613, F613), (533, F533), (605, F605), (777, F777), (776, F776), (600, F600), (352, F352)]
def T : Nat → Option PFunc := tabOf tabl
end Go.Vs.G
