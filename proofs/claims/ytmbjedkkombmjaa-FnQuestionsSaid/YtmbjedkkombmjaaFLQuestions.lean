/- The functions that the law reaches, in the small language, printed by program. No conditions. -/
import Derived.Test.YtmbjedkkombmjaaDLQuestions
import Derived.Test.YtmbjedkkombmjaaV4
set_option maxRecDepth 100000
open Go Go.Vs
namespace Go.Vs.G
def F116 : PFunc :=
 ⟨[false], [.tmp 2],
  (.seq
   (.region [] [] [0] false [
     (none, .asg 2 (.c (.bool false)) .copy)])
   (.seq
    (.seq
     (.region [] [] [0, 21] false [
       (none, .mv 4 (.v 0)),
       (none, .len 5 true (.v 4)),
       (none, .bin 6 .lss (.v 5) (.c (.int .i64 1))),
       (none, .mv 7 (.v 6)),
       (some (7, false), .mv 8 (.v 0)),
       (some (7, false), .len 9 true (.v 8)),
       (some (7, false), .bin 10 .gtr (.v 9) (.c (.int .i64 12))),
       (none, .pick 11 (.v 7) (.c (.bool true)) (.v 10)),
       (none, .mv 12 (.v 11)),
       (some (12, false), .mv 13 (.v 0)),
       (some (12, false), .idx 14 (.v 13) (.c (.int .i64 0))),
       (some (12, false), .bin 15 .lss (.v 14) (.c (.int .u8 97))),
       (none, .pick 16 (.v 12) (.c (.bool true)) (.v 15)),
       (none, .mv 17 (.v 16)),
       (some (17, false), .mv 18 (.v 0)),
       (some (17, false), .idx 19 (.v 18) (.c (.int .i64 0))),
       (some (17, false), .bin 20 .gtr (.v 19) (.c (.int .u8 122))),
       (none, .pick 21 (.v 17) (.c (.bool true)) (.v 20))])
     (.cond (.v 21)
      (.seq
       (.region [] [] [2] false [
         (none, .asg 2 (.c (.bool false)) .copy)])
       (.ret [2]))
      (.skip [0])))
    (.seq
     (.seq
      (.region [] [] [0, 3] false [
        (none, .asg 3 (.c (.int .i64 1)) .copy)])
      (.block 0
       (.loop
        (.seq
         (.seq
          (.region [] [] [0, 3, 25] false [
            (none, .mv 22 (.v 3)),
            (none, .mv 23 (.v 0)),
            (none, .len 24 true (.v 23)),
            (none, .bin 25 .lss (.v 22) (.v 24))])
          (.cond (.v 25)
           (.skip [0, 3])
           (.exit 0 [])))
         (.seq
          (.block 1
           (.seq
            (.region [] [] [0, 3, 55] false [
              (none, .mv 28 (.v 0)),
              (none, .mv 29 (.v 3)),
              (none, .idx 30 (.v 28) (.v 29)),
              (none, .bin 31 .lss (.v 30) (.c (.int .u8 97))),
              (none, .mv 32 (.v 31)),
              (some (32, false), .mv 33 (.v 0)),
              (some (32, false), .mv 34 (.v 3)),
              (some (32, false), .idx 35 (.v 33) (.v 34)),
              (some (32, false), .bin 36 .gtr (.v 35) (.c (.int .u8 122))),
              (none, .pick 37 (.v 32) (.c (.bool true)) (.v 36)),
              (none, .mv 38 (.v 37)),
              (some (38, true), .mv 39 (.v 0)),
              (some (38, true), .mv 40 (.v 3)),
              (some (38, true), .idx 41 (.v 39) (.v 40)),
              (some (38, true), .bin 42 .lss (.v 41) (.c (.int .u8 48))),
              (some (38, true), .mv 43 (.v 42)),
              (some (43, false), .mv 44 (.v 0)),
              (some (43, false), .mv 45 (.v 3)),
              (some (43, false), .idx 46 (.v 44) (.v 45)),
              (some (43, false), .bin 47 .gtr (.v 46) (.c (.int .u8 57))),
              (some (38, true), .pick 48 (.v 43) (.c (.bool true)) (.v 47)),
              (none, .pick 49 (.v 38) (.v 48) (.c (.bool false))),
              (none, .mv 50 (.v 49)),
              (some (50, true), .mv 51 (.v 0)),
              (some (50, true), .mv 52 (.v 3)),
              (some (50, true), .idx 53 (.v 51) (.v 52)),
              (some (50, true), .bin 54 .neq (.v 53) (.c (.int .u8 45))),
              (none, .pick 55 (.v 50) (.v 54) (.c (.bool false)))])
            (.cond (.v 55)
             (.seq
              (.region [] [] [2] false [
                (none, .asg 2 (.c (.bool false)) .copy)])
              (.ret [2]))
             (.skip [0, 3]))))
          (.region [] [] [0, 3] false [
            (none, .mv 26 (.v 3)),
            (none, .bin 27 .add (.v 26) (.c (.int .i64 1))),
            (none, .asg 3 (.v 27) .copy)]))))))
     (.seq
      (.region [] [] [2] false [
        (none, .asg 2 (.c (.bool true)) .copy)])
      (.ret [2])))))⟩
def F209 : PFunc :=
 ⟨[false, false], [.tmp 3],
  (.seq
   (.region [] [] [1, 2] false [
     (none, .box 2 (.v 0) .move),
     (none, .asg 3 (.c (.bool false)) .copy)])
   (.seq
    (.region [(6, 1, false), (4, 2, false)] [] [3] false [
      (none, .fadr 4 0 1 (.v 2)),
      (none, .load 5 false 1 (.v 4) none),
      (none, .fadr 6 0 1 (.v 1)),
      (none, .load 7 false 1 (.v 6) none),
      (none, .bin 8 .eql (.v 5) (.v 7)),
      (none, .asg 3 (.v 8) .copy)])
    (.ret [3])))⟩
def F326 : PFunc :=
 ⟨[false, false, false], [.tmp 6],
  (.seq
   (.region [] [] [0, 1, 2] false [
     (none, .asg 6 (.c (.bool false)) .copy)])
   (.seq
    (.region [] [] [6] false [
      (none, .mv 7 (.v 0)),
      (none, .mv 8 (.v 1)),
      (none, .bin 9 .geq (.v 7) (.v 8)),
      (none, .mv 10 (.v 9)),
      (some (10, true), .mv 11 (.v 0)),
      (some (10, true), .mv 12 (.v 2)),
      (some (10, true), .bin 13 .leq (.v 11) (.v 12)),
      (none, .pick 14 (.v 10) (.v 13) (.c (.bool false))),
      (none, .asg 6 (.v 14) .copy)])
    (.ret [6])))⟩
def F276 : PFunc :=
 ⟨[false, false], [.tmp 4],
  (.seq
   (.region [] [] [0, 1] false [
     (none, .asg 4 (.c (.bool false)) .copy)])
   (.seq
    (.seq
     (.region [(7, 0, false)] [] [0, 1, 7, 8, 9] false [
       (none, .mv 7 (.v 0)),
       (none, .len 8 false (.v 7)),
       (none, .mv 9 (.c (.int .i64 0)))])
     (.block 0
      (.loop
       (.seq
        (.region [(7, 0, false)] [] [0, 1, 7, 8, 9, 10] false [
          (none, .bin 10 .lss (.v 9) (.v 8))])
        (.seq
         (.cond (.v 10)
          (.skip [0, 1, 7, 8, 9])
          (.exit 0 []))
         (.seq
          (.block 1
           (.seq
            (.region [(12, 0, false), (7, 0, false)] [] [0, 1, 5, 6, 7, 8, 9] false [
              (none, .mv 11 (.v 9)),
              (none, .iadr 12 1 (.v 7) (.v 9)),
              (none, .load 13 false 1 (.v 12) none),
              (none, .asg 5 (.v 11) .copy),
              (none, .asg 6 (.v 13) .copy)])
            (.seq
             (.region [(26, 0, false), (23, 0, false), (7, 0, false)] [] [0, 1, 7, 8, 9, 31] false [
               (none, .mv 14 (.v 6)),
               (none, .mv 15 (.v 1)),
               (none, .bin 16 .sub (.v 15) (.c (.int .i64 1))),
               (none, .call (some 17) 326 false [((.v 14), false), ((.c (.int .i64 0)), false), ((.v 16), false)]),
               (none, .un 18 .not (.v 17)),
               (none, .mv 19 (.v 18)),
               (some (19, false), .mv 20 (.v 5)),
               (some (19, false), .bin 21 .gtr (.v 20) (.c (.int .i64 0))),
               (some (19, false), .mv 22 (.v 21)),
               (some (22, true), .mv 23 (.v 0)),
               (some (22, true), .mv 24 (.v 5)),
               (some (22, true), .bin 25 .sub (.v 24) (.c (.int .i64 1))),
               (some (22, true), .iadr 26 1 (.v 23) (.v 25)),
               (some (22, true), .load 27 false 1 (.v 26) none),
               (some (22, true), .mv 28 (.v 6)),
               (some (22, true), .bin 29 .geq (.v 27) (.v 28)),
               (some (19, false), .pick 30 (.v 22) (.v 29) (.c (.bool false))),
               (none, .pick 31 (.v 19) (.c (.bool true)) (.v 30))])
             (.cond (.v 31)
              (.seq
               (.region [] [] [4] false [
                 (none, .asg 4 (.c (.bool false)) .copy)])
               (.ret [4]))
              (.skip [0, 1, 7, 8, 9])))))
          (.region [(7, 0, false)] [] [0, 1, 7, 8, 9] false [
            (none, .bin 32 .add (.v 9) (.c (.int .i64 1))),
            (none, .mv 9 (.v 32))])))))))
    (.seq
     (.region [] [] [4] false [
       (none, .asg 4 (.c (.bool true)) .copy)])
     (.ret [4]))))⟩
def F821 : PFunc :=
 ⟨[false, false], [.tmp 4],
  (.seq
   (.region [] [] [0, 1] false [
     (none, .asg 4 (.c (.int .i64 0)) .copy)])
   (.seq
    (.seq
     (.region [(6, 0, false)] [] [0, 1, 7, 8] false [
       (none, .mv 6 (.v 0)),
       (none, .len 7 false (.v 6)),
       (none, .mv 8 (.c (.int .i64 0)))])
     (.block 0
      (.loop
       (.seq
        (.region [] [] [0, 1, 7, 8, 9] false [
          (none, .bin 9 .lss (.v 8) (.v 7))])
        (.seq
         (.cond (.v 9)
          (.skip [0, 1, 7, 8])
          (.exit 0 []))
         (.seq
          (.block 1
           (.seq
            (.region [] [] [0, 1, 5, 7, 8] false [
              (none, .mv 10 (.v 8)),
              (none, .asg 5 (.v 10) .copy)])
            (.seq
             (.region [(14, 0, false), (12, 0, false), (11, 1, false)] [] [0, 1, 5, 7, 8, 16] false [
               (none, .mv 11 (.v 1)),
               (none, .mv 12 (.v 0)),
               (none, .mv 13 (.v 5)),
               (none, .iadr 14 2 (.v 12) (.v 13)),
               (none, .load 15 true 2 (.v 14) (some .freeze)),
               (none, .callv (some 16) (.v 11) [(.v 15)])])
             (.cond (.v 16)
              (.seq
               (.region [] [] [4] false [
                 (none, .mv 17 (.v 5)),
                 (none, .asg 4 (.v 17) .copy)])
               (.ret [4]))
              (.skip [0, 1, 7, 8])))))
          (.region [] [] [0, 1, 7, 8] false [
            (none, .bin 18 .add (.v 8) (.c (.int .i64 1))),
            (none, .mv 8 (.v 18))])))))))
    (.seq
     (.region [] [] [4] false [
       (none, .asg 4 (.c (.int .i64 (-1))) .copy)])
     (.ret [4]))))⟩
def F799 : PFunc :=
 ⟨[false, false], [.tmp 4],
  (.seq
   (.region [] [] [0, 1] false [
     (none, .asg 4 (.c (.bool false)) .copy)])
   (.seq
    (.region [(6, 1, false), (5, 0, false)] [] [4] false [
      (none, .mv 5 (.v 0)),
      (none, .mv 6 (.v 1)),
      (none, .call (some 7) 821 false [((.v 5), false), ((.v 6), false)]),
      (none, .bin 8 .geq (.v 7) (.c (.int .i64 0))),
      (none, .asg 4 (.v 8) .copy)])
    (.ret [4])))⟩
def F208 : PFunc :=
 ⟨[false, false], [.tmp 4],
  (.seq
   (.region [] [6] [0, 1] false [
     (none, .asg 4 (.c (.bool false)) .copy)])
   (.seq
    (.seq
     (.region [(11, 1, false)] [6] [0, 1, 14] false [
       (none, .mv 7 (.v 0)),
       (none, .call (some 8) 326 false [((.v 7), false), ((.c (.int .i64 1)), false), ((.c (.int .i64 16)), false)]),
       (none, .un 9 .not (.v 8)),
       (none, .mv 10 (.v 9)),
       (some (10, false), .mv 11 (.v 1)),
       (some (10, false), .len 12 false (.v 11)),
       (some (10, false), .bin 13 .gtr (.v 12) (.c (.int .i64 10))),
       (none, .pick 14 (.v 10) (.c (.bool true)) (.v 13))])
     (.cond (.v 14)
      (.seq
       (.region [] [6] [4] false [
         (none, .asg 4 (.c (.bool false)) .copy)])
       (.ret [4]))
      (.skip [0, 1])))
    (.seq
     (.seq
      (.region [(15, 1, false)] [6] [0, 1, 15, 16, 17] false [
        (none, .mv 15 (.v 1)),
        (none, .len 16 false (.v 15)),
        (none, .mv 17 (.c (.int .i64 0)))])
      (.block 0
       (.loop
        (.seq
         (.region [(15, 1, false)] [6] [0, 1, 15, 16, 17, 18] false [
           (none, .bin 18 .lss (.v 17) (.v 16))])
         (.seq
          (.cond (.v 18)
           (.skip [0, 1, 15, 16, 17])
           (.exit 0 []))
          (.seq
           (.block 1
            (.seq
             (.region [(20, 1, false), (15, 1, false)] [] [0, 1, 5, 6, 15, 16, 17] false [
               (none, .mv 19 (.v 17)),
               (none, .iadr 20 2 (.v 15) (.v 17)),
               (none, .load 21 true 2 (.v 20) (some .freeze)),
               (none, .new 6 (.agg [(.str []), (.sl false 1 [])])),
               (none, .asg 5 (.v 19) .copy),
               (none, .store 2 (.v 6) (.v 21) .move)])
             (.seq
              (.region [(40, 1, false), (34, 6, true), (33, 6, false), (28, 6, true), (27, 6, false), (22, 6, false), (15, 1, false)] [6] [0, 1, 15, 16, 17, 45] false [
                (none, .fadr 22 0 1 (.v 6)),
                (none, .load 23 false 1 (.v 22) none),
                (none, .call (some 24) 116 false [((.v 23), false)]),
                (none, .un 25 .not (.v 24)),
                (none, .mv 26 (.v 25)),
                (some (26, false), .fadr 27 1 1 (.v 6)),
                (some (26, false), .load 28 false 1 (.v 27) none),
                (some (26, false), .len 29 false (.v 28)),
                (some (26, false), .bin 30 .eql (.v 29) (.c (.int .i64 0))),
                (none, .pick 31 (.v 26) (.c (.bool true)) (.v 30)),
                (none, .mv 32 (.v 31)),
                (some (32, false), .fadr 33 1 1 (.v 6)),
                (some (32, false), .load 34 false 1 (.v 33) none),
                (some (32, false), .mv 35 (.v 0)),
                (some (32, false), .call (some 36) 276 false [((.v 34), false), ((.v 35), false)]),
                (some (32, false), .un 37 .not (.v 36)),
                (none, .pick 38 (.v 32) (.c (.bool true)) (.v 37)),
                (none, .mv 39 (.v 38)),
                (some (39, false), .mv 40 (.v 1)),
                (some (39, false), .mv 41 (.v 5)),
                (some (39, false), .slc 42 false 2 (.v 40) none (some (.v 41)) .freeze),
                (some (39, false), .mkfn 43 209 [6]),
                (some (39, false), .call (some 44) 799 false [((.v 42), false), ((.v 43), false)]),
                (none, .pick 45 (.v 39) (.c (.bool true)) (.v 44))])
              (.cond (.v 45)
               (.seq
                (.region [] [6] [4] false [
                  (none, .asg 4 (.c (.bool false)) .copy)])
                (.ret [4]))
               (.skip [0, 1, 15, 16, 17])))))
           (.region [(15, 1, false)] [6] [0, 1, 15, 16, 17] false [
             (none, .bin 46 .add (.v 17) (.c (.int .i64 1))),
             (none, .mv 17 (.v 46))])))))))
     (.seq
      (.region [] [6] [4] false [
        (none, .asg 4 (.c (.bool true)) .copy)])
      (.ret [4])))))⟩
def F811 : PFunc :=
 ⟨[false, false], [.tmp 4],
  (.seq
   (.region [] [] [0, 1] false [
     (none, .asg 4 (.c (.bool false)) .copy)])
   (.seq
    (.seq
     (.region [(8, 1, false), (6, 0, false)] [] [0, 1, 10] false [
       (none, .mv 6 (.v 0)),
       (none, .len 7 false (.v 6)),
       (none, .mv 8 (.v 1)),
       (none, .len 9 false (.v 8)),
       (none, .bin 10 .neq (.v 7) (.v 9))])
     (.cond (.v 10)
      (.seq
       (.region [] [] [4] false [
         (none, .asg 4 (.c (.bool false)) .copy)])
       (.ret [4]))
      (.skip [0, 1])))
    (.seq
     (.seq
      (.region [(11, 0, false)] [] [0, 1, 12, 13] false [
        (none, .mv 11 (.v 0)),
        (none, .len 12 false (.v 11)),
        (none, .mv 13 (.c (.int .i64 0)))])
      (.block 0
       (.loop
        (.seq
         (.region [] [] [0, 1, 12, 13, 14] false [
           (none, .bin 14 .lss (.v 13) (.v 12))])
         (.seq
          (.cond (.v 14)
           (.skip [0, 1, 12, 13])
           (.exit 0 []))
          (.seq
           (.block 1
            (.seq
             (.region [] [] [0, 1, 5, 12, 13] false [
               (none, .mv 15 (.v 13)),
               (none, .asg 5 (.v 15) .copy)])
             (.seq
              (.region [(22, 1, false), (20, 1, false), (18, 0, false), (16, 0, false)] [] [0, 1, 12, 13, 24] true [
                (none, .mv 16 (.v 0)),
                (none, .mv 17 (.v 5)),
                (none, .iadr 18 1 (.v 16) (.v 17)),
                (none, .load 19 false 1 (.v 18) none),
                (none, .mv 20 (.v 1)),
                (none, .mv 21 (.v 5)),
                (none, .iadr 22 1 (.v 20) (.v 21)),
                (none, .load 23 false 1 (.v 22) none),
                (none, .bin 24 .neq (.v 19) (.v 23))])
              (.cond (.v 24)
               (.seq
                (.region [] [] [4] false [
                  (none, .asg 4 (.c (.bool false)) .copy)])
                (.ret [4]))
               (.skip [0, 1, 12, 13])))))
           (.region [] [] [0, 1, 12, 13] false [
             (none, .bin 25 .add (.v 13) (.c (.int .i64 1))),
             (none, .mv 13 (.v 25))])))))))
     (.seq
      (.region [] [] [4] false [
        (none, .asg 4 (.c (.bool true)) .copy)])
      (.ret [4])))))⟩
def F40 : PFunc :=
 ⟨[false, false], [.tmp 4, .tmp 5],
  (.seq
   (.region [] [] [0, 1] false [
     (none, .asg 4 (.c (.sl true 1 [])) .copy),
     (none, .asg 5 (.c (.int .i64 0)) .copy)])
   (.seq
    (.seq
     (.region [(11, 1, false)] [] [1, 13] false [
       (none, .mv 10 (.v 0)),
       (none, .mv 11 (.v 1)),
       (none, .call (some 12) 208 false [((.v 10), false), ((.v 11), false)]),
       (none, .un 13 .not (.v 12))])
     (.cond (.v 13)
      (.seq
       (.region [] [] [4, 5] false [
         (none, .asg 4 (.c (.sl true 1 [])) .copy),
         (none, .asg 5 (.c (.int .i64 1)) .copy)])
       (.ret [4, 5]))
      (.skip [1])))
    (.seq
     (.region [] [] [1, 6] false [
       (none, .mksl 14 1 (.sl true 1 []) 0 []),
       (none, .asg 6 (.v 14) .move)])
     (.seq
      (.seq
       (.region [(15, 1, false)] [] [1, 6, 15, 16, 17] false [
         (none, .mv 15 (.v 1)),
         (none, .len 16 false (.v 15)),
         (none, .mv 17 (.c (.int .i64 0)))])
       (.block 0
        (.loop
         (.seq
          (.region [(15, 1, false)] [] [1, 6, 15, 16, 17, 18] false [
            (none, .bin 18 .lss (.v 17) (.v 16))])
          (.seq
           (.cond (.v 18)
            (.skip [1, 6, 15, 16, 17])
            (.exit 0 [6]))
           (.seq
            (.block 1
             (.seq
              (.region [(20, 1, false), (15, 1, false)] [] [1, 6, 7, 8, 15, 16, 17] false [
                (none, .mv 19 (.v 17)),
                (none, .iadr 20 2 (.v 15) (.v 17)),
                (none, .load 21 true 2 (.v 20) (some .freeze)),
                (none, .new 8 (.agg [(.str []), (.sl false 1 [])])),
                (none, .asg 7 (.v 19) .copy),
                (none, .store 2 (.v 8) (.v 21) .move)])
              (.seq
               (.region [(15, 1, false)] [] [1, 6, 7, 8, 9, 15, 16, 17] false [
                 (none, .mv 22 (.v 7)),
                 (none, .bin 23 .add (.v 22) (.c (.int .i64 1))),
                 (none, .asg 9 (.v 23) .copy)])
               (.block 2
                (.loop
                 (.seq
                  (.seq
                   (.region [(25, 1, false), (15, 1, false)] [] [1, 6, 7, 8, 9, 15, 16, 17, 27] false [
                     (none, .mv 24 (.v 9)),
                     (none, .mv 25 (.v 1)),
                     (none, .len 26 false (.v 25)),
                     (none, .bin 27 .lss (.v 24) (.v 26))])
                   (.cond (.v 27)
                    (.skip [1, 6, 7, 8, 9, 15, 16, 17])
                    (.exit 2 [1, 6, 15, 16, 17])))
                  (.seq
                   (.block 3
                    (.seq
                     (.region [(36, 1, true), (35, 1, false), (34, 1, false), (32, 1, false), (31, 8, true), (30, 8, false), (15, 1, false)] [] [1, 6, 7, 8, 9, 15, 16, 17, 37] true [
                       (none, .fadr 30 1 1 (.v 8)),
                       (none, .load 31 false 1 (.v 30) none),
                       (none, .mv 32 (.v 1)),
                       (none, .mv 33 (.v 9)),
                       (none, .iadr 34 2 (.v 32) (.v 33)),
                       (none, .fadr 35 1 1 (.v 34)),
                       (none, .load 36 false 1 (.v 35) none),
                       (none, .call (some 37) 811 false [((.v 31), false), ((.v 36), false)])])
                     (.cond (.v 37)
                      (.region [(38, 6, false), (15, 1, false)] [] [1, 6, 7, 8, 9, 15, 16, 17] false [
                        (none, .mv 38 (.v 6)),
                        (none, .mv 39 (.v 7)),
                        (none, .mv 40 (.v 9)),
                        (none, .mksl 41 1 (.int .i64 0) 2 [(0, (.v 39), .copy), (1, (.v 40), .copy)]),
                        (none, .mksl 42 1 (.sl true 1 []) 1 [(0, (.v 41), .move)]),
                        (none, .app 43 1 (.v 38) (.v 42) .move),
                        (none, .asg 6 (.v 43) .move)])
                      (.skip [1, 6, 7, 8, 9, 15, 16, 17]))))
                   (.region [(15, 1, false)] [] [1, 6, 7, 8, 9, 15, 16, 17] false [
                     (none, .mv 28 (.v 9)),
                     (none, .bin 29 .add (.v 28) (.c (.int .i64 1))),
                     (none, .asg 9 (.v 29) .copy)]))))))))
            (.region [(15, 1, false)] [] [1, 6, 15, 16, 17] false [
              (none, .bin 44 .add (.v 17) (.c (.int .i64 1))),
              (none, .mv 17 (.v 44))])))))))
      (.seq
       (.region [(45, 6, false)] [] [4, 5] false [
         (none, .mv 45 (.v 6)),
         (none, .asg 4 (.v 45) .move),
         (none, .asg 5 (.c (.int .i64 0)) .copy)])
       (.ret [4, 5]))))))⟩
def F256 : PFunc :=
 ⟨[false, false, false, false], [.tmp 8],
  (.seq
   (.region [] [] [0, 1, 2, 3] false [
     (none, .asg 8 (.c (.int .i64 0)) .copy)])
   (.seq
    (.block 0
     (.seq
      (.region [(11, 1, false)] [] [0, 1, 2, 3, 9] false [
        (none, .mv 10 (.v 0)),
        (none, .mv 11 (.v 1)),
        (none, .call (some 12) 208 false [((.v 10), false), ((.v 11), false)]),
        (none, .un 13 .not (.v 12)),
        (none, .asg 9 (.v 13) .copy)])
      (.cond (.v 9)
       (.seq
        (.region [] [] [8] false [
          (none, .asg 8 (.c (.int .i64 1)) .copy)])
        (.ret [8]))
       (.seq
        (.region [(21, 3, false), (16, 1, false), (15, 2, false)] [] [14] false [
          (none, .mv 15 (.v 2)),
          (none, .mv 16 (.v 1)),
          (none, .len 17 false (.v 16)),
          (none, .call (some 18) 276 false [((.v 15), false), ((.v 17), false)]),
          (none, .un 19 .not (.v 18)),
          (none, .mv 20 (.v 19)),
          (some (20, false), .mv 21 (.v 3)),
          (some (20, false), .mv 22 (.v 0)),
          (some (20, false), .call (some 23) 276 false [((.v 21), false), ((.v 22), false)]),
          (some (20, false), .un 24 .not (.v 23)),
          (none, .pick 25 (.v 20) (.c (.bool true)) (.v 24)),
          (none, .asg 14 (.v 25) .copy)])
        (.cond (.v 14)
         (.seq
          (.region [] [] [8] false [
            (none, .asg 8 (.c (.int .i64 2)) .copy)])
          (.ret [8]))
         (.skip []))))))
    (.seq
     (.region [] [] [8] false [
       (none, .asg 8 (.c (.int .i64 0)) .copy)])
     (.ret [8]))))⟩
def F273 : PFunc :=
 ⟨[false], [.tmp 2],
  (.seq
   (.region [] [] [0] false [
     (none, .asg 2 (.c (.sl true 1 [])) .copy)])
   (.seq
    (.region [] [] [0, 3] false [
      (none, .mksl 5 1 (.int .i64 0) 0 []),
      (none, .asg 3 (.v 5) .move)])
    (.seq
     (.seq
      (.region [] [] [0, 3, 4] false [
        (none, .asg 4 (.c (.int .i64 0)) .copy)])
      (.block 0
       (.loop
        (.seq
         (.seq
          (.region [] [] [0, 3, 4, 10] false [
            (none, .mv 6 (.v 0)),
            (none, .mv 7 (.v 4)),
            (none, .conv 8 .u64 (.v 7)),
            (none, .bin 9 .shr (.v 6) (.v 8)),
            (none, .bin 10 .gtr (.v 9) (.c (.int .i64 0)))])
          (.cond (.v 10)
           (.skip [0, 3, 4])
           (.exit 0 [3])))
         (.seq
          (.block 1
           (.seq
            (.region [] [] [0, 3, 4, 18] false [
              (none, .mv 13 (.v 0)),
              (none, .mv 14 (.v 4)),
              (none, .conv 15 .u64 (.v 14)),
              (none, .bin 16 .shr (.v 13) (.v 15)),
              (none, .bin 17 .and (.v 16) (.c (.int .i64 1))),
              (none, .bin 18 .eql (.v 17) (.c (.int .i64 1)))])
            (.cond (.v 18)
             (.region [(19, 3, false)] [] [0, 3, 4] false [
               (none, .mv 19 (.v 3)),
               (none, .mv 20 (.v 4)),
               (none, .mksl 21 1 (.int .i64 0) 1 [(0, (.v 20), .copy)]),
               (none, .app 22 1 (.v 19) (.v 21) .move),
               (none, .asg 3 (.v 22) .move)])
             (.skip [0, 3, 4]))))
          (.region [] [] [0, 3, 4] false [
            (none, .mv 11 (.v 4)),
            (none, .bin 12 .add (.v 11) (.c (.int .i64 1))),
            (none, .asg 4 (.v 12) .copy)]))))))
     (.seq
      (.region [(23, 3, false)] [] [2] false [
        (none, .mv 23 (.v 3)),
        (none, .asg 2 (.v 23) .move)])
      (.ret [2])))))⟩
def F308 : PFunc :=
 ⟨[false, false], [.tmp 4],
  (.seq
   (.region [] [] [0, 1] false [
     (none, .asg 4 (.c (.sl true 1 [])) .copy)])
   (.seq
    (.region [] [] [0, 1, 5] false [
      (none, .mksl 8 1 (.int .i64 0) 0 []),
      (none, .asg 5 (.v 8) .move)])
    (.seq
     (.seq
      (.region [(9, 1, false)] [] [0, 1, 5, 9, 10, 11] false [
        (none, .mv 9 (.v 1)),
        (none, .len 10 false (.v 9)),
        (none, .mv 11 (.c (.int .i64 0)))])
      (.block 0
       (.loop
        (.seq
         (.region [(9, 1, false)] [] [0, 1, 5, 9, 10, 11, 12] false [
           (none, .bin 12 .lss (.v 11) (.v 10))])
         (.seq
          (.cond (.v 12)
           (.skip [0, 1, 5, 9, 10, 11])
           (.exit 0 [5]))
          (.seq
           (.block 1
            (.seq
             (.region [(13, 1, false), (9, 1, false)] [] [0, 1, 5, 7, 9, 10, 11] false [
               (none, .iadr 13 1 (.v 9) (.v 11)),
               (none, .load 14 false 1 (.v 13) none),
               (none, .asg 7 (.v 14) .copy)])
             (.region [(20, 0, true), (19, 0, false), (18, 0, false), (16, 0, false), (15, 5, false), (9, 1, false)] [] [0, 1, 5, 9, 10, 11] false [
               (none, .mv 15 (.v 5)),
               (none, .mv 16 (.v 0)),
               (none, .mv 17 (.v 7)),
               (none, .iadr 18 2 (.v 16) (.v 17)),
               (none, .fadr 19 1 1 (.v 18)),
               (none, .load 20 false 1 (.v 19) none),
               (none, .app 21 1 (.v 15) (.v 20) .freeze),
               (none, .asg 5 (.v 21) .move)])))
           (.region [(9, 1, false)] [] [0, 1, 5, 9, 10, 11] false [
             (none, .bin 22 .add (.v 11) (.c (.int .i64 1))),
             (none, .mv 11 (.v 22))])))))))
     (.seq
      (.region [(23, 5, false)] [] [5] false [
        (none, .mv 23 (.v 5)),
        (none, .call (some 24) 836 false [((.v 23), true)])])
      (.seq
       (.region [(25, 5, false)] [] [4] false [
         (none, .mv 25 (.v 5)),
         (none, .call (some 26) 791 false [((.v 25), true)]),
         (none, .asg 4 (.v 26) .move)])
       (.ret [4]))))))⟩
def F266 : PFunc :=
 ⟨[false, false], [.tmp 4],
  (.seq
   (.region [] [] [0, 1] false [
     (none, .asg 4 (.c (.sl true 1 [])) .copy)])
   (.seq
    (.region [] [] [0, 1, 5] false [
      (none, .mksl 8 1 (.sl true 1 []) 0 []),
      (none, .asg 5 (.v 8) .move)])
    (.seq
     (.seq
      (.region [(9, 0, false)] [] [0, 1, 5, 12, 13] false [
        (none, .mv 9 (.v 0)),
        (none, .len 10 false (.v 9)),
        (none, .conv 11 .u64 (.v 10)),
        (none, .bin 12 .shl (.c (.int .i64 1)) (.v 11)),
        (none, .mv 13 (.c (.int .i64 0)))])
      (.block 0
       (.loop
        (.seq
         (.region [] [] [0, 1, 5, 12, 13, 14] false [
           (none, .bin 14 .lss (.v 13) (.v 12))])
         (.seq
          (.cond (.v 14)
           (.skip [0, 1, 5, 12, 13])
           (.exit 0 [5]))
          (.seq
           (.block 1
            (.seq
             (.region [] [] [0, 1, 5, 6, 12, 13] false [
               (none, .mv 15 (.v 13)),
               (none, .asg 6 (.v 15) .copy)])
             (.seq
              (.region [] [] [0, 1, 5, 7, 12, 13] false [
                (none, .mv 16 (.v 6)),
                (none, .call (some 17) 273 false [((.v 16), false)]),
                (none, .asg 7 (.v 17) .move)])
              (.seq
               (.region [(21, 1, false), (19, 7, false), (18, 0, false)] [] [0, 1, 5, 7, 12, 13, 22] false [
                 (none, .mv 18 (.v 0)),
                 (none, .mv 19 (.v 7)),
                 (none, .call (some 20) 308 false [((.v 18), false), ((.v 19), false)]),
                 (none, .mv 21 (.v 1)),
                 (none, .call (some 22) 811 false [((.v 20), false), ((.v 21), false)])])
               (.cond (.v 22)
                (.region [(24, 7, false), (23, 5, false)] [] [0, 1, 5, 12, 13] false [
                  (none, .mv 23 (.v 5)),
                  (none, .mv 24 (.v 7)),
                  (none, .mksl 25 1 (.sl true 1 []) 1 [(0, (.v 24), .move)]),
                  (none, .app 26 1 (.v 23) (.v 25) .move),
                  (none, .asg 5 (.v 26) .move)])
                (.skip [0, 1, 5, 12, 13]))))))
           (.region [] [] [0, 1, 5, 12, 13] false [
             (none, .bin 27 .add (.v 13) (.c (.int .i64 1))),
             (none, .mv 13 (.v 27))])))))))
     (.seq
      (.region [(28, 5, false)] [] [4] false [
        (none, .mv 28 (.v 5)),
        (none, .asg 4 (.v 28) .move)])
      (.ret [4])))))⟩
def F305 : PFunc :=
 ⟨[false, false], [.tmp 4],
  (.seq
   (.region [] [] [0, 1] false [
     (none, .asg 4 (.c (.sl true 1 [])) .copy)])
   (.seq
    (.region [(10, 0, false)] [] [1, 5] false [
      (none, .mv 10 (.v 0)),
      (none, .len 11 false (.v 10)),
      (none, .make 12 1 (.int .i64 0) (.v 11)),
      (none, .asg 5 (.v 12) .move)])
    (.seq
     (.seq
      (.region [(13, 1, false)] [] [1, 5, 13, 14, 15] false [
        (none, .mv 13 (.v 1)),
        (none, .len 14 false (.v 13)),
        (none, .mv 15 (.c (.int .i64 0)))])
      (.block 0
       (.loop
        (.seq
         (.region [(13, 1, false)] [] [1, 5, 13, 14, 15, 16] false [
           (none, .bin 16 .lss (.v 15) (.v 14))])
         (.seq
          (.cond (.v 16)
           (.skip [1, 5, 13, 14, 15])
           (.exit 0 [5]))
          (.seq
           (.block 1
            (.seq
             (.region [(18, 1, true), (17, 1, false), (13, 1, false)] [] [1, 5, 7, 13, 14, 15] false [
               (none, .iadr 17 1 (.v 13) (.v 15)),
               (none, .load 18 false 1 (.v 17) none),
               (none, .asg 7 (.v 18) .freeze)])
             (.seq
              (.region [(19, 7, false), (13, 1, false)] [] [1, 5, 7, 13, 14, 15, 19, 20, 21] false [
                (none, .mv 19 (.v 7)),
                (none, .len 20 false (.v 19)),
                (none, .mv 21 (.c (.int .i64 0)))])
              (.block 2
               (.loop
                (.seq
                 (.region [(13, 1, false), (19, 7, false)] [] [1, 5, 7, 13, 14, 15, 19, 20, 21, 22] false [
                   (none, .bin 22 .lss (.v 21) (.v 20))])
                 (.seq
                  (.cond (.v 22)
                   (.skip [1, 5, 7, 13, 14, 15, 19, 20, 21])
                   (.exit 2 [1, 5, 13, 14, 15]))
                  (.seq
                   (.block 3
                    (.seq
                     (.region [(23, 7, false), (13, 1, false), (19, 7, false)] [] [1, 5, 7, 9, 13, 14, 15, 19, 20, 21] false [
                       (none, .iadr 23 1 (.v 19) (.v 21)),
                       (none, .load 24 false 1 (.v 23) none),
                       (none, .asg 9 (.v 24) .copy)])
                     (.region [(30, 5, false), (27, 5, false), (25, 5, false), (13, 1, false), (19, 7, false)] [] [1, 5, 7, 13, 14, 15, 19, 20, 21] false [
                       (none, .mv 25 (.v 5)),
                       (none, .mv 26 (.v 9)),
                       (none, .iadr 27 1 (.v 25) (.v 26)),
                       (none, .load 28 false 1 (.v 27) none),
                       (none, .bin 29 .add (.v 28) (.c (.int .i64 1))),
                       (none, .iadr 30 1 (.v 25) (.v 26)),
                       (none, .store 1 (.v 30) (.v 29) .copy)])))
                   (.region [(13, 1, false), (19, 7, false)] [] [1, 5, 7, 13, 14, 15, 19, 20, 21] false [
                     (none, .bin 31 .add (.v 21) (.c (.int .i64 1))),
                     (none, .mv 21 (.v 31))])))))))))
           (.region [(13, 1, false)] [] [1, 5, 13, 14, 15] false [
             (none, .bin 32 .add (.v 15) (.c (.int .i64 1))),
             (none, .mv 15 (.v 32))])))))))
     (.seq
      (.region [(33, 5, false)] [] [4] false [
        (none, .mv 33 (.v 5)),
        (none, .asg 4 (.v 33) .move)])
      (.ret [4])))))⟩
def F53 : PFunc :=
 ⟨[false, false, false], [.tmp 6, .tmp 7],
  (.seq
   (.region [] [] [0, 1, 2] false [
     (none, .asg 6 (.c (.int .i64 0)) .copy),
     (none, .asg 7 (.c (.int .i64 0)) .copy)])
   (.seq
    (.seq
     (.region [(17, 2, false), (16, 1, false)] [] [1, 2, 8] false [
       (none, .mv 15 (.v 0)),
       (none, .mv 16 (.v 1)),
       (none, .mv 17 (.v 2)),
       (none, .call (some 18) 256 false [((.v 15), false), ((.v 16), false), ((.c (.sl false 1 [])), false), ((.v 17), false)]),
       (none, .asg 8 (.v 18) .copy)])
     (.seq
      (.region [] [] [1, 2, 8, 20] false [
        (none, .mv 19 (.v 8)),
        (none, .bin 20 .neq (.v 19) (.c (.int .i64 0)))])
      (.cond (.v 20)
       (.seq
        (.region [] [] [6, 7] false [
          (none, .mv 21 (.v 8)),
          (none, .asg 6 (.c (.int .i64 0)) .copy),
          (none, .asg 7 (.v 21) .copy)])
        (.ret [6, 7]))
       (.skip [1, 2]))))
    (.seq
     (.region [(23, 2, false), (22, 1, false)] [] [1, 9] false [
       (none, .mv 22 (.v 1)),
       (none, .mv 23 (.v 2)),
       (none, .call (some 24) 266 false [((.v 22), false), ((.v 23), false)]),
       (none, .asg 9 (.v 24) .move)])
     (.seq
      (.seq
       (.region [(25, 9, false)] [] [1, 9, 27] false [
         (none, .mv 25 (.v 9)),
         (none, .len 26 false (.v 25)),
         (none, .bin 27 .eql (.v 26) (.c (.int .i64 0)))])
       (.cond (.v 27)
        (.seq
         (.region [] [] [6, 7] false [
           (none, .asg 6 (.c (.int .i64 0)) .copy),
           (none, .asg 7 (.c (.int .i64 3)) .copy)])
         (.ret [6, 7]))
        (.skip [1, 9])))
      (.seq
       (.region [(28, 9, false)] [] [1, 9, 10, 11] false [
         (none, .mv 28 (.v 9)),
         (none, .len 29 false (.v 28)),
         (none, .asg 10 (.c (.int .i64 0)) .copy),
         (none, .asg 11 (.v 29) .copy)])
       (.seq
        (.seq
         (.region [(31, 9, false), (30, 1, false)] [] [9, 10, 11, 32, 33, 34] false [
           (none, .mv 30 (.v 1)),
           (none, .mv 31 (.v 9)),
           (none, .call (some 32) 305 false [((.v 30), false), ((.v 31), false)]),
           (none, .len 33 false (.v 32)),
           (none, .mv 34 (.c (.int .i64 0)))])
         (.block 0
          (.loop
           (.seq
            (.region [] [] [9, 10, 11, 32, 33, 34, 35] false [
              (none, .bin 35 .lss (.v 34) (.v 33))])
            (.seq
             (.cond (.v 35)
              (.skip [9, 10, 11, 32, 33, 34])
              (.exit 0 [9, 10, 11]))
             (.seq
              (.block 1
               (.seq
                (.region [(37, 32, false)] [] [9, 10, 11, 12, 13, 32, 33, 34] false [
                  (none, .mv 36 (.v 34)),
                  (none, .iadr 37 1 (.v 32) (.v 34)),
                  (none, .load 38 false 1 (.v 37) none),
                  (none, .asg 12 (.v 36) .copy),
                  (none, .asg 13 (.v 38) .copy)])
                (.seq
                 (.region [(40, 9, false)] [] [9, 10, 11, 12, 14, 32, 33, 34] false [
                   (none, .mv 39 (.v 13)),
                   (none, .mv 40 (.v 9)),
                   (none, .len 41 false (.v 40)),
                   (none, .mv 42 (.v 13)),
                   (none, .bin 43 .sub (.v 41) (.v 42)),
                   (none, .mm 44 true (.v 39) [(.v 43)]),
                   (none, .asg 14 (.v 44) .copy)])
                 (.seq
                  (.region [] [] [9, 10, 11, 12, 14, 32, 33, 34, 47] false [
                    (none, .mv 45 (.v 14)),
                    (none, .mv 46 (.v 11)),
                    (none, .bin 47 .lss (.v 45) (.v 46))])
                  (.cond (.v 47)
                   (.region [] [] [9, 10, 11, 32, 33, 34] false [
                     (none, .mv 48 (.v 12)),
                     (none, .mv 49 (.v 14)),
                     (none, .asg 10 (.v 48) .copy),
                     (none, .asg 11 (.v 49) .copy)])
                   (.skip [9, 10, 11, 32, 33, 34]))))))
              (.region [] [] [9, 10, 11, 32, 33, 34] false [
                (none, .bin 50 .add (.v 34) (.c (.int .i64 1))),
                (none, .mv 34 (.v 50))])))))))
        (.seq
         (.seq
          (.region [(52, 9, false)] [] [10, 54] false [
            (none, .mv 51 (.v 11)),
            (none, .mv 52 (.v 9)),
            (none, .len 53 false (.v 52)),
            (none, .bin 54 .eql (.v 51) (.v 53))])
          (.cond (.v 54)
           (.seq
            (.region [] [] [6, 7] false [
              (none, .asg 6 (.c (.int .i64 0)) .copy),
              (none, .asg 7 (.c (.int .i64 6)) .copy)])
            (.ret [6, 7]))
           (.skip [10])))
         (.seq
          (.region [] [] [6, 7] false [
            (none, .mv 55 (.v 10)),
            (none, .asg 6 (.v 55) .copy),
            (none, .asg 7 (.c (.int .i64 0)) .copy)])
          (.ret [6, 7])))))))))⟩
def F82 : PFunc :=
 ⟨[false, false, false, false], [.tmp 8, .tmp 9],
  (.seq
   (.region [] [] [0, 1, 2, 3] false [
     (none, .asg 8 (.c (.bool false)) .copy),
     (none, .asg 9 (.c (.int .i64 0)) .copy)])
   (.seq
    (.seq
     (.region [(14, 3, false), (13, 2, false), (12, 1, false)] [] [1, 2, 3, 10] false [
       (none, .mv 11 (.v 0)),
       (none, .mv 12 (.v 1)),
       (none, .mv 13 (.v 2)),
       (none, .mv 14 (.v 3)),
       (none, .call (some 15) 256 false [((.v 11), false), ((.v 12), false), ((.v 13), false), ((.v 14), false)]),
       (none, .asg 10 (.v 15) .copy)])
     (.seq
      (.region [] [] [1, 2, 3, 10, 17] false [
        (none, .mv 16 (.v 10)),
        (none, .bin 17 .neq (.v 16) (.c (.int .i64 0)))])
      (.cond (.v 17)
       (.seq
        (.region [] [] [8, 9] false [
          (none, .mv 18 (.v 10)),
          (none, .asg 8 (.c (.bool false)) .copy),
          (none, .asg 9 (.v 18) .copy)])
        (.ret [8, 9]))
       (.skip [1, 2, 3]))))
    (.seq
     (.region [(22, 3, false), (20, 2, false), (19, 1, false)] [] [8, 9] false [
       (none, .mv 19 (.v 1)),
       (none, .mv 20 (.v 2)),
       (none, .call (some 21) 308 false [((.v 19), false), ((.v 20), false)]),
       (none, .mv 22 (.v 3)),
       (none, .call (some 23) 811 false [((.v 21), false), ((.v 22), false)]),
       (none, .asg 8 (.v 23) .copy),
       (none, .asg 9 (.c (.int .i64 0)) .copy)])
     (.ret [8, 9]))))⟩
def F184 : PFunc :=
 ⟨[false, false, false], [.tmp 6, .tmp 7],
  (.seq
   (.region [] [] [0, 1, 2] false [
     (none, .asg 6 (.c (.sl true 1 [])) .copy),
     (none, .asg 7 (.c (.int .i64 0)) .copy)])
   (.seq
    (.seq
     (.region [(11, 2, false), (10, 1, false)] [] [1, 2, 8] false [
       (none, .mv 9 (.v 0)),
       (none, .mv 10 (.v 1)),
       (none, .mv 11 (.v 2)),
       (none, .call (some 12) 256 false [((.v 9), false), ((.v 10), false), ((.v 11), false), ((.c (.sl false 1 [])), false)]),
       (none, .asg 8 (.v 12) .copy)])
     (.seq
      (.region [] [] [1, 2, 8, 14] false [
        (none, .mv 13 (.v 8)),
        (none, .bin 14 .neq (.v 13) (.c (.int .i64 0)))])
      (.cond (.v 14)
       (.seq
        (.region [] [] [6, 7] false [
          (none, .mv 15 (.v 8)),
          (none, .asg 6 (.c (.sl true 1 [])) .copy),
          (none, .asg 7 (.v 15) .copy)])
        (.ret [6, 7]))
       (.skip [1, 2]))))
    (.seq
     (.region [(17, 2, false), (16, 1, false)] [] [6, 7] false [
       (none, .mv 16 (.v 1)),
       (none, .mv 17 (.v 2)),
       (none, .call (some 18) 308 false [((.v 16), false), ((.v 17), false)]),
       (none, .asg 6 (.v 18) .move),
       (none, .asg 7 (.c (.int .i64 0)) .copy)])
     (.ret [6, 7]))))⟩
def F195 : PFunc :=
 ⟨[false, false, false], [.tmp 6, .tmp 7],
  (.seq
   (.region [] [] [0, 1, 2] false [
     (none, .asg 6 (.c (.sl true 1 [])) .copy),
     (none, .asg 7 (.c (.int .i64 0)) .copy)])
   (.seq
    (.seq
     (.region [(15, 2, false), (14, 1, false)] [] [1, 2, 8] false [
       (none, .mv 13 (.v 0)),
       (none, .mv 14 (.v 1)),
       (none, .mv 15 (.v 2)),
       (none, .call (some 16) 256 false [((.v 13), false), ((.v 14), false), ((.c (.sl false 1 [])), false), ((.v 15), false)]),
       (none, .asg 8 (.v 16) .copy)])
     (.seq
      (.region [] [] [1, 2, 8, 18] false [
        (none, .mv 17 (.v 8)),
        (none, .bin 18 .neq (.v 17) (.c (.int .i64 0)))])
      (.cond (.v 18)
       (.seq
        (.region [] [] [6, 7] false [
          (none, .mv 19 (.v 8)),
          (none, .asg 6 (.c (.sl true 1 [])) .copy),
          (none, .asg 7 (.v 19) .copy)])
        (.ret [6, 7]))
       (.skip [1, 2]))))
    (.seq
     (.region [(21, 2, false), (20, 1, false)] [] [1, 9] false [
       (none, .mv 20 (.v 1)),
       (none, .mv 21 (.v 2)),
       (none, .call (some 22) 266 false [((.v 20), false), ((.v 21), false)]),
       (none, .asg 9 (.v 22) .move)])
     (.seq
      (.seq
       (.region [(23, 9, false)] [] [1, 9, 25] false [
         (none, .mv 23 (.v 9)),
         (none, .len 24 false (.v 23)),
         (none, .bin 25 .eql (.v 24) (.c (.int .i64 0)))])
       (.cond (.v 25)
        (.seq
         (.region [] [] [6, 7] false [
           (none, .asg 6 (.c (.sl true 1 [])) .copy),
           (none, .asg 7 (.c (.int .i64 3)) .copy)])
         (.ret [6, 7]))
        (.skip [1, 9])))
      (.seq
       (.region [] [] [1, 9, 10] false [
         (none, .mksl 26 1 (.int .i64 0) 0 []),
         (none, .asg 10 (.v 26) .move)])
       (.seq
        (.seq
         (.region [(28, 9, false), (27, 1, false)] [] [9, 10, 29, 30, 31] false [
           (none, .mv 27 (.v 1)),
           (none, .mv 28 (.v 9)),
           (none, .call (some 29) 305 false [((.v 27), false), ((.v 28), false)]),
           (none, .len 30 false (.v 29)),
           (none, .mv 31 (.c (.int .i64 0)))])
         (.block 0
          (.loop
           (.seq
            (.region [] [] [9, 10, 29, 30, 31, 32] false [
              (none, .bin 32 .lss (.v 31) (.v 30))])
            (.seq
             (.cond (.v 32)
              (.skip [9, 10, 29, 30, 31])
              (.exit 0 [10]))
             (.seq
              (.block 1
               (.seq
                (.region [(34, 29, false)] [] [9, 10, 11, 12, 29, 30, 31] false [
                  (none, .mv 33 (.v 31)),
                  (none, .iadr 34 1 (.v 29) (.v 31)),
                  (none, .load 35 false 1 (.v 34) none),
                  (none, .asg 11 (.v 33) .copy),
                  (none, .asg 12 (.v 35) .copy)])
                (.seq
                 (.region [(37, 9, false)] [] [9, 10, 11, 29, 30, 31, 39] false [
                   (none, .mv 36 (.v 12)),
                   (none, .mv 37 (.v 9)),
                   (none, .len 38 false (.v 37)),
                   (none, .bin 39 .eql (.v 36) (.v 38))])
                 (.cond (.v 39)
                  (.region [(40, 10, false)] [] [9, 10, 29, 30, 31] false [
                    (none, .mv 40 (.v 10)),
                    (none, .mv 41 (.v 11)),
                    (none, .mksl 42 1 (.int .i64 0) 1 [(0, (.v 41), .copy)]),
                    (none, .app 43 1 (.v 40) (.v 42) .move),
                    (none, .asg 10 (.v 43) .move)])
                  (.skip [9, 10, 29, 30, 31])))))
              (.region [] [] [9, 10, 29, 30, 31] false [
                (none, .bin 44 .add (.v 31) (.c (.int .i64 1))),
                (none, .mv 31 (.v 44))])))))))
        (.seq
         (.region [(45, 10, false)] [] [6, 7] false [
           (none, .mv 45 (.v 10)),
           (none, .asg 6 (.v 45) .move),
           (none, .asg 7 (.c (.int .i64 0)) .copy)])
         (.ret [6, 7]))))))))⟩
def F398 : PFunc :=
 ⟨[false], [.tmp 2],
  (.seq
   (.region [] [] [0] false [
     (none, .asg 2 (.c (.bool false)) .copy)])
   (.seq
    (.region [(3, 0, false)] [] [2] false [
      (none, .mv 3 (.v 0)),
      (none, .len 4 false (.v 3)),
      (none, .bin 5 .gtr (.v 4) (.c (.int .i64 4096))),
      (none, .asg 2 (.v 5) .copy)])
    (.ret [2])))⟩
def F399 : PFunc :=
 ⟨[false, false], [.tmp 4],
  (.seq
   (.region [] [] [0, 1] false [
     (none, .asg 4 (.c (.bool false)) .copy)])
   (.seq
    (.seq
     (.region [] [] [0, 1, 5] false [
       (none, .asg 5 (.c (.int .i64 0)) .copy)])
     (.block 0
      (.loop
       (.seq
        (.seq
         (.region [(7, 0, false)] [] [0, 1, 5, 9] false [
           (none, .mv 6 (.v 5)),
           (none, .mv 7 (.v 0)),
           (none, .len 8 false (.v 7)),
           (none, .bin 9 .lss (.v 6) (.v 8))])
         (.cond (.v 9)
          (.skip [0, 1, 5])
          (.exit 0 [])))
        (.seq
         (.block 1
          (.seq
           (.region [(14, 0, false), (12, 0, false)] [] [0, 1, 5, 17] false [
             (none, .mv 12 (.v 0)),
             (none, .mv 13 (.v 5)),
             (none, .iadr 14 1 (.v 12) (.v 13)),
             (none, .load 15 false 1 (.v 14) none),
             (none, .mv 16 (.v 1)),
             (none, .bin 17 .eql (.v 15) (.v 16))])
           (.cond (.v 17)
            (.seq
             (.region [] [] [4] false [
               (none, .asg 4 (.c (.bool true)) .copy)])
             (.ret [4]))
            (.skip [0, 1, 5]))))
         (.region [] [] [0, 1, 5] false [
           (none, .mv 10 (.v 5)),
           (none, .bin 11 .add (.v 10) (.c (.int .i64 1))),
           (none, .asg 5 (.v 11) .copy)]))))))
    (.seq
     (.region [] [] [4] false [
       (none, .asg 4 (.c (.bool false)) .copy)])
     (.ret [4]))))⟩
def F400 : PFunc :=
 ⟨[false, false], [.tmp 4],
  (.seq
   (.region [] [] [0, 1] false [
     (none, .asg 4 (.c (.bool false)) .copy)])
   (.seq
    (.seq
     (.region [(8, 1, false), (6, 0, false)] [] [0, 1, 10] false [
       (none, .mv 6 (.v 0)),
       (none, .len 7 false (.v 6)),
       (none, .mv 8 (.v 1)),
       (none, .len 9 false (.v 8)),
       (none, .bin 10 .neq (.v 7) (.v 9))])
     (.cond (.v 10)
      (.seq
       (.region [] [] [4] false [
         (none, .asg 4 (.c (.bool false)) .copy)])
       (.ret [4]))
      (.skip [0, 1])))
    (.seq
     (.seq
      (.region [] [] [0, 1, 5] false [
        (none, .asg 5 (.c (.int .i64 0)) .copy)])
      (.block 0
       (.loop
        (.seq
         (.seq
          (.region [(12, 0, false)] [] [0, 1, 5, 14] false [
            (none, .mv 11 (.v 5)),
            (none, .mv 12 (.v 0)),
            (none, .len 13 false (.v 12)),
            (none, .bin 14 .lss (.v 11) (.v 13))])
          (.cond (.v 14)
           (.skip [0, 1, 5])
           (.exit 0 [])))
         (.seq
          (.block 1
           (.seq
            (.region [(23, 1, false), (21, 1, false), (19, 0, false), (17, 0, false)] [] [0, 1, 5, 25] true [
              (none, .mv 17 (.v 0)),
              (none, .mv 18 (.v 5)),
              (none, .iadr 19 1 (.v 17) (.v 18)),
              (none, .load 20 false 1 (.v 19) none),
              (none, .mv 21 (.v 1)),
              (none, .mv 22 (.v 5)),
              (none, .iadr 23 1 (.v 21) (.v 22)),
              (none, .load 24 false 1 (.v 23) none),
              (none, .bin 25 .neq (.v 20) (.v 24))])
            (.cond (.v 25)
             (.seq
              (.region [] [] [4] false [
                (none, .asg 4 (.c (.bool false)) .copy)])
              (.ret [4]))
             (.skip [0, 1, 5]))))
          (.region [] [] [0, 1, 5] false [
            (none, .mv 15 (.v 5)),
            (none, .bin 16 .add (.v 15) (.c (.int .i64 1))),
            (none, .asg 5 (.v 16) .copy)]))))))
     (.seq
      (.region [] [] [4] false [
        (none, .asg 4 (.c (.bool true)) .copy)])
      (.ret [4])))))⟩
def F766 : PFunc :=
 ⟨[false], [.tmp 2],
  (.seq
   (.region [] [] [0] false [
     (none, .asg 2 (.c (.int .i64 0)) .copy)])
   (.seq
    (.region [] [] [0, 3] false [
      (none, .asg 3 (.c (.int .i64 0)) .copy)])
    (.seq
     (.seq
      (.region [] [] [0, 3, 4] false [
        (none, .asg 4 (.c (.int .i64 0)) .copy)])
      (.block 0
       (.loop
        (.seq
         (.seq
          (.region [(6, 0, false)] [] [0, 3, 4, 8] false [
            (none, .mv 5 (.v 4)),
            (none, .mv 6 (.v 0)),
            (none, .len 7 false (.v 6)),
            (none, .bin 8 .lss (.v 5) (.v 7))])
          (.cond (.v 8)
           (.skip [0, 3, 4])
           (.exit 0 [3])))
         (.seq
          (.block 1
           (.region [(14, 0, false), (12, 0, false)] [] [0, 3, 4] false [
             (none, .mv 11 (.v 3)),
             (none, .mv 12 (.v 0)),
             (none, .mv 13 (.v 4)),
             (none, .iadr 14 1 (.v 12) (.v 13)),
             (none, .load 15 false 1 (.v 14) none),
             (none, .conv 16 .u64 (.v 15)),
             (none, .bin 17 .shl (.c (.int .i64 1)) (.v 16)),
             (none, .bin 18 .or (.v 11) (.v 17)),
             (none, .asg 3 (.v 18) .copy)]))
          (.region [] [] [0, 3, 4] false [
            (none, .mv 9 (.v 4)),
            (none, .bin 10 .add (.v 9) (.c (.int .i64 1))),
            (none, .asg 4 (.v 10) .copy)]))))))
     (.seq
      (.region [] [] [2] false [
        (none, .mv 19 (.v 3)),
        (none, .asg 2 (.v 19) .copy)])
      (.ret [2])))))⟩
def F612 : PFunc :=
 ⟨[false], [.tmp 2],
  (.seq
   (.region [] [] [0] false [
     (none, .asg 2 (.c (.bool false)) .copy)])
   (.seq
    (.region [] [] [2] false [
      (none, .mv 3 (.v 0)),
      (none, .bin 4 .geq (.v 3) (.c (.int .u8 48))),
      (none, .mv 5 (.v 4)),
      (some (5, true), .mv 6 (.v 0)),
      (some (5, true), .bin 7 .leq (.v 6) (.c (.int .u8 57))),
      (none, .pick 8 (.v 5) (.v 7) (.c (.bool false))),
      (none, .asg 2 (.v 8) .copy)])
    (.ret [2])))⟩
def F613 : PFunc :=
 ⟨[false], [.tmp 2],
  (.seq
   (.region [] [] [0] false [
     (none, .asg 2 (.c (.bool false)) .copy)])
   (.seq
    (.region [] [] [2] false [
      (none, .mv 3 (.v 0)),
      (none, .bin 4 .geq (.v 3) (.c (.int .u8 97))),
      (none, .mv 5 (.v 4)),
      (some (5, true), .mv 6 (.v 0)),
      (some (5, true), .bin 7 .leq (.v 6) (.c (.int .u8 122))),
      (none, .pick 8 (.v 5) (.v 7) (.c (.bool false))),
      (none, .asg 2 (.v 8) .copy)])
    (.ret [2])))⟩
def F533 : PFunc :=
 ⟨[false], [.tmp 2],
  (.seq
   (.region [] [] [0] false [
     (none, .asg 2 (.c (.bool false)) .copy)])
   (.seq
    (.seq
     (.region [] [] [0, 16] false [
       (none, .mv 4 (.v 0)),
       (none, .bin 5 .eql (.v 4) (.c (.str []))),
       (none, .mv 6 (.v 5)),
       (some (6, false), .mv 7 (.v 0)),
       (some (6, false), .len 8 true (.v 7)),
       (some (6, false), .bin 9 .gtr (.v 8) (.c (.int .i64 12))),
       (none, .pick 10 (.v 6) (.c (.bool true)) (.v 9)),
       (none, .mv 11 (.v 10)),
       (some (11, false), .mv 12 (.v 0)),
       (some (11, false), .idx 13 (.v 12) (.c (.int .i64 0))),
       (some (11, false), .call (some 14) 613 false [((.v 13), false)]),
       (some (11, false), .un 15 .not (.v 14)),
       (none, .pick 16 (.v 11) (.c (.bool true)) (.v 15))])
     (.cond (.v 16)
      (.seq
       (.region [] [] [2] false [
         (none, .asg 2 (.c (.bool false)) .copy)])
       (.ret [2]))
      (.skip [0])))
    (.seq
     (.seq
      (.region [] [] [0, 3] false [
        (none, .asg 3 (.c (.int .i64 0)) .copy)])
      (.block 0
       (.loop
        (.seq
         (.seq
          (.region [] [] [0, 3, 20] false [
            (none, .mv 17 (.v 3)),
            (none, .mv 18 (.v 0)),
            (none, .len 19 true (.v 18)),
            (none, .bin 20 .lss (.v 17) (.v 19))])
          (.cond (.v 20)
           (.skip [0, 3])
           (.exit 0 [])))
         (.seq
          (.block 1
           (.seq
            (.region [] [] [0, 3, 40] false [
              (none, .mv 23 (.v 0)),
              (none, .mv 24 (.v 3)),
              (none, .idx 25 (.v 23) (.v 24)),
              (none, .call (some 26) 613 false [((.v 25), false)]),
              (none, .un 27 .not (.v 26)),
              (none, .mv 28 (.v 27)),
              (some (28, true), .mv 29 (.v 0)),
              (some (28, true), .mv 30 (.v 3)),
              (some (28, true), .idx 31 (.v 29) (.v 30)),
              (some (28, true), .call (some 32) 612 false [((.v 31), false)]),
              (some (28, true), .un 33 .not (.v 32)),
              (none, .pick 34 (.v 28) (.v 33) (.c (.bool false))),
              (none, .mv 35 (.v 34)),
              (some (35, true), .mv 36 (.v 0)),
              (some (35, true), .mv 37 (.v 3)),
              (some (35, true), .idx 38 (.v 36) (.v 37)),
              (some (35, true), .bin 39 .neq (.v 38) (.c (.int .u8 45))),
              (none, .pick 40 (.v 35) (.v 39) (.c (.bool false)))])
            (.cond (.v 40)
             (.seq
              (.region [] [] [2] false [
                (none, .asg 2 (.c (.bool false)) .copy)])
              (.ret [2]))
             (.skip [0, 3]))))
          (.region [] [] [0, 3] false [
            (none, .mv 21 (.v 3)),
            (none, .bin 22 .add (.v 21) (.c (.int .i64 1))),
            (none, .asg 3 (.v 22) .copy)]))))))
     (.seq
      (.region [] [] [2] false [
        (none, .asg 2 (.c (.bool true)) .copy)])
      (.ret [2])))))⟩
def F605 : PFunc :=
 ⟨[false, false, false], [.tmp 6],
  (.seq
   (.region [] [] [0, 1, 2] false [
     (none, .asg 6 (.c (.bool false)) .copy)])
   (.seq
    (.region [] [] [6] false [
      (none, .mv 7 (.v 0)),
      (none, .mv 8 (.v 1)),
      (none, .bin 9 .geq (.v 7) (.v 8)),
      (none, .mv 10 (.v 9)),
      (some (10, true), .mv 11 (.v 0)),
      (some (10, true), .mv 12 (.v 2)),
      (some (10, true), .bin 13 .leq (.v 11) (.v 12)),
      (none, .pick 14 (.v 10) (.v 13) (.c (.bool false))),
      (none, .asg 6 (.v 14) .copy)])
    (.ret [6])))⟩
def F609 : PFunc :=
 ⟨[false, false, false], [.tmp 6],
  (.seq
   (.region [] [] [0, 1, 2] false [
     (none, .asg 6 (.c (.bool false)) .copy)])
   (.seq
    (.seq
     (.region [] [] [0, 1, 2, 7] false [
       (none, .asg 7 (.c (.int .i64 0)) .copy)])
     (.block 0
      (.loop
       (.seq
        (.seq
         (.region [(9, 0, false)] [] [0, 1, 2, 7, 11] false [
           (none, .mv 8 (.v 7)),
           (none, .mv 9 (.v 0)),
           (none, .len 10 false (.v 9)),
           (none, .bin 11 .lss (.v 8) (.v 10))])
         (.cond (.v 11)
          (.skip [0, 1, 2, 7])
          (.exit 0 [])))
        (.seq
         (.block 1
          (.seq
           (.region [(33, 0, false), (31, 0, false), (29, 0, false), (26, 0, false), (16, 0, false), (14, 0, false)] [] [0, 1, 2, 7, 37] true [
             (none, .mv 14 (.v 0)),
             (none, .mv 15 (.v 7)),
             (none, .iadr 16 1 (.v 14) (.v 15)),
             (none, .load 17 false 1 (.v 16) none),
             (none, .mv 18 (.v 1)),
             (none, .mv 19 (.v 2)),
             (none, .call (some 20) 605 false [((.v 17), false), ((.v 18), false), ((.v 19), false)]),
             (none, .un 21 .not (.v 20)),
             (none, .mv 22 (.v 21)),
             (some (22, false), .mv 23 (.v 7)),
             (some (22, false), .bin 24 .gtr (.v 23) (.c (.int .i64 0))),
             (some (22, false), .mv 25 (.v 24)),
             (some (25, true), .mv 26 (.v 0)),
             (some (25, true), .mv 27 (.v 7)),
             (some (25, true), .bin 28 .sub (.v 27) (.c (.int .i64 1))),
             (some (25, true), .iadr 29 1 (.v 26) (.v 28)),
             (some (25, true), .load 30 false 1 (.v 29) none),
             (some (25, true), .mv 31 (.v 0)),
             (some (25, true), .mv 32 (.v 7)),
             (some (25, true), .iadr 33 1 (.v 31) (.v 32)),
             (some (25, true), .load 34 false 1 (.v 33) none),
             (some (25, true), .bin 35 .geq (.v 30) (.v 34)),
             (some (22, false), .pick 36 (.v 25) (.v 35) (.c (.bool false))),
             (none, .pick 37 (.v 22) (.c (.bool true)) (.v 36))])
           (.cond (.v 37)
            (.seq
             (.region [] [] [6] false [
               (none, .asg 6 (.c (.bool false)) .copy)])
             (.ret [6]))
            (.skip [0, 1, 2, 7]))))
         (.region [] [] [0, 1, 2, 7] false [
           (none, .mv 12 (.v 7)),
           (none, .bin 13 .add (.v 12) (.c (.int .i64 1))),
           (none, .asg 7 (.v 13) .copy)]))))))
    (.seq
     (.region [] [] [6] false [
       (none, .asg 6 (.c (.bool true)) .copy)])
     (.ret [6]))))⟩
def F772 : PFunc :=
 ⟨[false, false], [.tmp 4],
  (.seq
   (.region [] [] [0, 1] false [
     (none, .asg 4 (.c (.bool false)) .copy)])
   (.seq
    (.seq
     (.region [(11, 1, false)] [] [0, 1, 14] false [
       (none, .mv 7 (.v 0)),
       (none, .call (some 8) 605 false [((.v 7), false), ((.c (.int .i64 1)), false), ((.c (.int .i64 16)), false)]),
       (none, .un 9 .not (.v 8)),
       (none, .mv 10 (.v 9)),
       (some (10, false), .mv 11 (.v 1)),
       (some (10, false), .len 12 false (.v 11)),
       (some (10, false), .bin 13 .gtr (.v 12) (.c (.int .i64 10))),
       (none, .pick 14 (.v 10) (.c (.bool true)) (.v 13))])
     (.cond (.v 14)
      (.seq
       (.region [] [] [4] false [
         (none, .asg 4 (.c (.bool false)) .copy)])
       (.ret [4]))
      (.skip [0, 1])))
    (.seq
     (.seq
      (.region [] [] [0, 1, 5] false [
        (none, .asg 5 (.c (.int .i64 0)) .copy)])
      (.block 0
       (.loop
        (.seq
         (.seq
          (.region [(16, 1, false)] [] [0, 1, 5, 18] false [
            (none, .mv 15 (.v 5)),
            (none, .mv 16 (.v 1)),
            (none, .len 17 false (.v 16)),
            (none, .bin 18 .lss (.v 15) (.v 17))])
          (.cond (.v 18)
           (.skip [0, 1, 5])
           (.exit 0 [])))
         (.seq
          (.block 1
           (.seq
            (.seq
             (.region [(42, 1, true), (41, 1, false), (40, 1, false), (38, 1, false), (33, 1, true), (32, 1, false), (31, 1, false), (29, 1, false), (24, 1, false), (23, 1, false), (21, 1, false)] [] [0, 1, 5, 47] false [
               (none, .mv 21 (.v 1)),
               (none, .mv 22 (.v 5)),
               (none, .iadr 23 2 (.v 21) (.v 22)),
               (none, .fadr 24 0 1 (.v 23)),
               (none, .load 25 false 1 (.v 24) none),
               (none, .call (some 26) 533 false [((.v 25), false)]),
               (none, .un 27 .not (.v 26)),
               (none, .mv 28 (.v 27)),
               (some (28, false), .mv 29 (.v 1)),
               (some (28, false), .mv 30 (.v 5)),
               (some (28, false), .iadr 31 2 (.v 29) (.v 30)),
               (some (28, false), .fadr 32 1 1 (.v 31)),
               (some (28, false), .load 33 false 1 (.v 32) none),
               (some (28, false), .len 34 false (.v 33)),
               (some (28, false), .bin 35 .eql (.v 34) (.c (.int .i64 0))),
               (none, .pick 36 (.v 28) (.c (.bool true)) (.v 35)),
               (none, .mv 37 (.v 36)),
               (some (37, false), .mv 38 (.v 1)),
               (some (37, false), .mv 39 (.v 5)),
               (some (37, false), .iadr 40 2 (.v 38) (.v 39)),
               (some (37, false), .fadr 41 1 1 (.v 40)),
               (some (37, false), .load 42 false 1 (.v 41) none),
               (some (37, false), .mv 43 (.v 0)),
               (some (37, false), .bin 44 .sub (.v 43) (.c (.int .i64 1))),
               (some (37, false), .call (some 45) 609 false [((.v 42), false), ((.c (.int .i64 0)), false), ((.v 44), false)]),
               (some (37, false), .un 46 .not (.v 45)),
               (none, .pick 47 (.v 37) (.c (.bool true)) (.v 46))])
             (.cond (.v 47)
              (.seq
               (.region [] [] [4] false [
                 (none, .asg 4 (.c (.bool false)) .copy)])
               (.ret [4]))
              (.skip [0, 1, 5])))
            (.seq
             (.region [] [] [0, 1, 5, 6] false [
               (none, .asg 6 (.c (.int .i64 0)) .copy)])
             (.block 2
              (.loop
               (.seq
                (.seq
                 (.region [] [] [0, 1, 5, 6, 50] false [
                   (none, .mv 48 (.v 6)),
                   (none, .mv 49 (.v 5)),
                   (none, .bin 50 .lss (.v 48) (.v 49))])
                 (.cond (.v 50)
                  (.skip [0, 1, 5, 6])
                  (.exit 2 [0, 1, 5])))
                (.seq
                 (.block 3
                  (.seq
                   (.region [(61, 1, false), (60, 1, false), (58, 1, false), (56, 1, false), (55, 1, false), (53, 1, false)] [] [0, 1, 5, 6, 63] true [
                     (none, .mv 53 (.v 1)),
                     (none, .mv 54 (.v 6)),
                     (none, .iadr 55 2 (.v 53) (.v 54)),
                     (none, .fadr 56 0 1 (.v 55)),
                     (none, .load 57 false 1 (.v 56) none),
                     (none, .mv 58 (.v 1)),
                     (none, .mv 59 (.v 5)),
                     (none, .iadr 60 2 (.v 58) (.v 59)),
                     (none, .fadr 61 0 1 (.v 60)),
                     (none, .load 62 false 1 (.v 61) none),
                     (none, .bin 63 .eql (.v 57) (.v 62))])
                   (.cond (.v 63)
                    (.seq
                     (.region [] [] [4] false [
                       (none, .asg 4 (.c (.bool false)) .copy)])
                     (.ret [4]))
                    (.skip [0, 1, 5, 6]))))
                 (.region [] [] [0, 1, 5, 6] false [
                   (none, .mv 51 (.v 6)),
                   (none, .bin 52 .add (.v 51) (.c (.int .i64 1))),
                   (none, .asg 6 (.v 52) .copy)]))))))))
          (.region [] [] [0, 1, 5] false [
            (none, .mv 19 (.v 5)),
            (none, .bin 20 .add (.v 19) (.c (.int .i64 1))),
            (none, .asg 5 (.v 20) .copy)]))))))
     (.seq
      (.region [] [] [4] false [
        (none, .asg 4 (.c (.bool true)) .copy)])
      (.ret [4])))))⟩
def F436 : PFunc :=
 ⟨[false, false], [.tmp 4, .tmp 5],
  (.seq
   (.region [] [] [0, 1] false [
     (none, .asg 4 (.c (.sl true 1 [])) .copy),
     (none, .asg 5 (.c (.int .i64 0)) .copy)])
   (.seq
    (.seq
     (.region [(10, 1, false)] [] [1, 12] false [
       (none, .mv 9 (.v 0)),
       (none, .mv 10 (.v 1)),
       (none, .call (some 11) 772 false [((.v 9), false), ((.v 10), false)]),
       (none, .un 12 .not (.v 11))])
     (.cond (.v 12)
      (.seq
       (.region [] [] [4, 5] false [
         (none, .asg 4 (.c (.sl true 1 [])) .copy),
         (none, .asg 5 (.c (.int .i64 1)) .copy)])
       (.ret [4, 5]))
      (.skip [1])))
    (.seq
     (.region [] [] [1, 6] false [
       (none, .mksl 13 1 (.sl true 1 []) 0 []),
       (none, .asg 6 (.v 13) .move)])
     (.seq
      (.seq
       (.region [] [] [1, 6, 7] false [
         (none, .asg 7 (.c (.int .i64 0)) .copy)])
       (.block 0
        (.loop
         (.seq
          (.seq
           (.region [(15, 1, false)] [] [1, 6, 7, 17] false [
             (none, .mv 14 (.v 7)),
             (none, .mv 15 (.v 1)),
             (none, .len 16 false (.v 15)),
             (none, .bin 17 .lss (.v 14) (.v 16))])
           (.cond (.v 17)
            (.skip [1, 6, 7])
            (.exit 0 [6])))
          (.seq
           (.block 1
            (.seq
             (.region [] [] [1, 6, 7, 8] false [
               (none, .mv 20 (.v 7)),
               (none, .bin 21 .add (.v 20) (.c (.int .i64 1))),
               (none, .asg 8 (.v 21) .copy)])
             (.block 2
              (.loop
               (.seq
                (.seq
                 (.region [(23, 1, false)] [] [1, 6, 7, 8, 25] false [
                   (none, .mv 22 (.v 8)),
                   (none, .mv 23 (.v 1)),
                   (none, .len 24 false (.v 23)),
                   (none, .bin 25 .lss (.v 22) (.v 24))])
                 (.cond (.v 25)
                  (.skip [1, 6, 7, 8])
                  (.exit 2 [1, 6, 7])))
                (.seq
                 (.block 3
                  (.seq
                   (.region [(38, 1, true), (37, 1, false), (36, 1, false), (34, 1, false), (32, 1, true), (31, 1, false), (30, 1, false), (28, 1, false)] [] [1, 6, 7, 8, 40] true [
                     (none, .mv 28 (.v 1)),
                     (none, .mv 29 (.v 7)),
                     (none, .iadr 30 2 (.v 28) (.v 29)),
                     (none, .fadr 31 1 1 (.v 30)),
                     (none, .load 32 false 1 (.v 31) none),
                     (none, .call (some 33) 766 false [((.v 32), false)]),
                     (none, .mv 34 (.v 1)),
                     (none, .mv 35 (.v 8)),
                     (none, .iadr 36 2 (.v 34) (.v 35)),
                     (none, .fadr 37 1 1 (.v 36)),
                     (none, .load 38 false 1 (.v 37) none),
                     (none, .call (some 39) 766 false [((.v 38), false)]),
                     (none, .bin 40 .eql (.v 33) (.v 39))])
                   (.cond (.v 40)
                    (.region [(41, 6, false)] [] [1, 6, 7, 8] false [
                      (none, .mv 41 (.v 6)),
                      (none, .mv 42 (.v 7)),
                      (none, .mv 43 (.v 8)),
                      (none, .mksl 44 1 (.int .i64 0) 2 [(0, (.v 42), .copy), (1, (.v 43), .copy)]),
                      (none, .mksl 45 1 (.sl true 1 []) 1 [(0, (.v 44), .move)]),
                      (none, .app 46 1 (.v 41) (.v 45) .move),
                      (none, .asg 6 (.v 46) .move)])
                    (.skip [1, 6, 7, 8]))))
                 (.region [] [] [1, 6, 7, 8] false [
                   (none, .mv 26 (.v 8)),
                   (none, .bin 27 .add (.v 26) (.c (.int .i64 1))),
                   (none, .asg 8 (.v 27) .copy)])))))))
           (.region [] [] [1, 6, 7] false [
             (none, .mv 18 (.v 7)),
             (none, .bin 19 .add (.v 18) (.c (.int .i64 1))),
             (none, .asg 7 (.v 19) .copy)]))))))
      (.seq
       (.region [(47, 6, false)] [] [4, 5] false [
         (none, .mv 47 (.v 6)),
         (none, .asg 4 (.v 47) .move),
         (none, .asg 5 (.c (.int .i64 0)) .copy)])
       (.ret [4, 5]))))))⟩
def F606 : PFunc :=
 ⟨[false, false], [.tmp 4],
  (.seq
   (.region [] [] [0, 1] false [
     (none, .asg 4 (.c (.int .i64 0)) .copy)])
   (.seq
    (.seq
     (.region [] [] [0, 1, 7] false [
       (none, .mv 5 (.v 0)),
       (none, .mv 6 (.v 1)),
       (none, .bin 7 .gtr (.v 5) (.v 6))])
     (.cond (.v 7)
      (.seq
       (.region [] [] [4] false [
         (none, .mv 8 (.v 0)),
         (none, .asg 4 (.v 8) .copy)])
       (.ret [4]))
      (.skip [1])))
    (.seq
     (.region [] [] [4] false [
       (none, .mv 9 (.v 1)),
       (none, .asg 4 (.v 9) .copy)])
     (.ret [4]))))⟩
def F774 : PFunc :=
 ⟨[false, false], [.tmp 4],
  (.seq
   (.region [] [] [0, 1] false [
     (none, .asg 4 (.c (.int .i64 0)) .copy)])
   (.seq
    (.region [] [] [0, 1, 5] false [
      (none, .asg 5 (.c (.int .i64 0)) .copy)])
    (.seq
     (.seq
      (.region [] [] [0, 1, 5, 6] false [
        (none, .asg 6 (.c (.int .i64 0)) .copy)])
      (.block 0
       (.loop
        (.seq
         (.seq
          (.region [(8, 0, false)] [] [0, 1, 5, 6, 10] false [
            (none, .mv 7 (.v 6)),
            (none, .mv 8 (.v 0)),
            (none, .len 9 false (.v 8)),
            (none, .bin 10 .lss (.v 7) (.v 9))])
          (.cond (.v 10)
           (.skip [0, 1, 5, 6])
           (.exit 0 [5])))
         (.seq
          (.block 1
           (.seq
            (.region [] [] [0, 1, 5, 6, 18] false [
              (none, .mv 13 (.v 1)),
              (none, .mv 14 (.v 6)),
              (none, .conv 15 .u64 (.v 14)),
              (none, .bin 16 .shr (.v 13) (.v 15)),
              (none, .bin 17 .and (.v 16) (.c (.int .i64 1))),
              (none, .bin 18 .eql (.v 17) (.c (.int .i64 1)))])
            (.cond (.v 18)
             (.region [(24, 0, true), (23, 0, false), (22, 0, false), (20, 0, false)] [] [0, 1, 5, 6] false [
               (none, .mv 19 (.v 5)),
               (none, .mv 20 (.v 0)),
               (none, .mv 21 (.v 6)),
               (none, .iadr 22 2 (.v 20) (.v 21)),
               (none, .fadr 23 1 1 (.v 22)),
               (none, .load 24 false 1 (.v 23) none),
               (none, .call (some 25) 766 false [((.v 24), false)]),
               (none, .bin 26 .or (.v 19) (.v 25)),
               (none, .asg 5 (.v 26) .copy)])
             (.skip [0, 1, 5, 6]))))
          (.region [] [] [0, 1, 5, 6] false [
            (none, .mv 11 (.v 6)),
            (none, .bin 12 .add (.v 11) (.c (.int .i64 1))),
            (none, .asg 6 (.v 12) .copy)]))))))
     (.seq
      (.region [] [] [4] false [
        (none, .mv 27 (.v 5)),
        (none, .asg 4 (.v 27) .copy)])
      (.ret [4])))))⟩
def F764 : PFunc :=
 ⟨[false, false], [.tmp 4],
  (.seq
   (.region [] [] [0, 1] false [
     (none, .asg 4 (.c (.sl true 1 [])) .copy)])
   (.seq
    (.region [(8, 1, false)] [] [0, 5] false [
      (none, .mv 8 (.v 1)),
      (none, .call (some 9) 766 false [((.v 8), false)]),
      (none, .asg 5 (.v 9) .copy)])
    (.seq
     (.region [] [] [0, 5, 6] false [
       (none, .mksl 10 1 (.int .i64 0) 0 []),
       (none, .asg 6 (.v 10) .move)])
     (.seq
      (.seq
       (.region [] [] [0, 5, 6, 7] false [
         (none, .asg 7 (.c (.int .i64 0)) .copy)])
       (.block 0
        (.loop
         (.seq
          (.seq
           (.region [(12, 0, false)] [] [0, 5, 6, 7, 16] false [
             (none, .mv 11 (.v 7)),
             (none, .mv 12 (.v 0)),
             (none, .len 13 false (.v 12)),
             (none, .conv 14 .u64 (.v 13)),
             (none, .bin 15 .shl (.c (.int .i64 1)) (.v 14)),
             (none, .bin 16 .lss (.v 11) (.v 15))])
           (.cond (.v 16)
            (.skip [0, 5, 6, 7])
            (.exit 0 [6])))
          (.seq
           (.block 1
            (.seq
             (.region [(19, 0, false)] [] [0, 5, 6, 7, 23] false [
               (none, .mv 19 (.v 0)),
               (none, .mv 20 (.v 7)),
               (none, .call (some 21) 774 false [((.v 19), false), ((.v 20), false)]),
               (none, .mv 22 (.v 5)),
               (none, .bin 23 .eql (.v 21) (.v 22))])
             (.cond (.v 23)
              (.region [(24, 6, false)] [] [0, 5, 6, 7] false [
                (none, .mv 24 (.v 6)),
                (none, .mv 25 (.v 7)),
                (none, .mksl 26 1 (.int .i64 0) 1 [(0, (.v 25), .copy)]),
                (none, .app 27 1 (.v 24) (.v 26) .move),
                (none, .asg 6 (.v 27) .move)])
              (.skip [0, 5, 6, 7]))))
           (.region [] [] [0, 5, 6, 7] false [
             (none, .mv 17 (.v 7)),
             (none, .bin 18 .add (.v 17) (.c (.int .i64 1))),
             (none, .asg 7 (.v 18) .copy)]))))))
      (.seq
       (.region [(28, 6, false)] [] [4] false [
         (none, .mv 28 (.v 6)),
         (none, .asg 4 (.v 28) .move)])
       (.ret [4]))))))⟩
def F767 : PFunc :=
 ⟨[false, false, false], [.tmp 6],
  (.seq
   (.region [] [] [0, 1, 2] false [
     (none, .asg 6 (.c (.int .i64 0)) .copy)])
   (.seq
    (.seq
     (.region [(8, 1, false)] [] [0, 2, 10] false [
       (none, .mv 7 (.v 0)),
       (none, .mv 8 (.v 1)),
       (none, .call (some 9) 772 false [((.v 7), false), ((.v 8), false)]),
       (none, .un 10 .not (.v 9))])
     (.cond (.v 10)
      (.seq
       (.region [] [] [6] false [
         (none, .asg 6 (.c (.int .i64 1)) .copy)])
       (.ret [6]))
      (.skip [0, 2])))
    (.seq
     (.seq
      (.region [(11, 2, false)] [] [15] false [
        (none, .mv 11 (.v 2)),
        (none, .mv 12 (.v 0)),
        (none, .bin 13 .sub (.v 12) (.c (.int .i64 1))),
        (none, .call (some 14) 609 false [((.v 11), false), ((.c (.int .i64 0)), false), ((.v 13), false)]),
        (none, .un 15 .not (.v 14))])
      (.cond (.v 15)
       (.seq
        (.region [] [] [6] false [
          (none, .asg 6 (.c (.int .i64 2)) .copy)])
        (.ret [6]))
       (.skip [])))
     (.seq
      (.region [] [] [6] false [
        (none, .asg 6 (.c (.int .i64 0)) .copy)])
      (.ret [6])))))⟩
def F775 : PFunc :=
 ⟨[false, false, false], [.tmp 6, .tmp 7],
  (.seq
   (.region [] [] [0, 1, 2] false [
     (none, .asg 6 (.c (.sl true 1 [])) .copy),
     (none, .asg 7 (.c (.int .i64 0)) .copy)])
   (.seq
    (.region [(12, 2, false), (11, 1, false)] [] [1, 2, 8] false [
      (none, .mv 10 (.v 0)),
      (none, .mv 11 (.v 1)),
      (none, .mv 12 (.v 2)),
      (none, .call (some 13) 767 false [((.v 10), false), ((.v 11), false), ((.v 12), false)]),
      (none, .asg 8 (.v 13) .copy)])
    (.seq
     (.seq
      (.region [] [] [1, 2, 8, 15] false [
        (none, .mv 14 (.v 8)),
        (none, .bin 15 .neq (.v 14) (.c (.int .i64 0)))])
      (.cond (.v 15)
       (.seq
        (.region [] [] [6, 7] false [
          (none, .mv 16 (.v 8)),
          (none, .asg 6 (.c (.sl true 1 [])) .copy),
          (none, .asg 7 (.v 16) .copy)])
        (.ret [6, 7]))
       (.skip [1, 2])))
     (.seq
      (.region [(18, 2, false), (17, 1, false)] [] [9] false [
        (none, .mv 17 (.v 1)),
        (none, .mv 18 (.v 2)),
        (none, .call (some 19) 764 false [((.v 17), false), ((.v 18), false)]),
        (none, .asg 9 (.v 19) .move)])
      (.seq
       (.seq
        (.region [(20, 9, false)] [] [9, 22] false [
          (none, .mv 20 (.v 9)),
          (none, .len 21 false (.v 20)),
          (none, .bin 22 .eql (.v 21) (.c (.int .i64 0)))])
        (.cond (.v 22)
         (.seq
          (.region [] [] [6, 7] false [
            (none, .asg 6 (.c (.sl true 1 [])) .copy),
            (none, .asg 7 (.c (.int .i64 3)) .copy)])
          (.ret [6, 7]))
         (.skip [9])))
       (.seq
        (.region [(23, 9, false)] [] [6, 7] false [
          (none, .mv 23 (.v 9)),
          (none, .asg 6 (.v 23) .move),
          (none, .asg 7 (.c (.int .i64 0)) .copy)])
        (.ret [6, 7])))))))⟩
def F441 : PFunc :=
 ⟨[false, false, false], [.tmp 6, .tmp 7],
  (.seq
   (.region [] [] [0, 1, 2] false [
     (none, .asg 6 (.c (.int .i64 0)) .copy),
     (none, .asg 7 (.c (.int .i64 0)) .copy)])
   (.seq
    (.region [(19, 2, false), (18, 1, false)] [] [1, 8, 9] false [
      (none, .mv 17 (.v 0)),
      (none, .mv 18 (.v 1)),
      (none, .mv 19 (.v 2)),
      (none, .call (some 20) 775 false [((.v 17), false), ((.v 18), false), ((.v 19), false)]),
      (none, .asg 16 (.v 20) .move),
      (none, .ext 21 (.v 16) 0),
      (none, .extp 22 (.v 16) 1),
      (none, .asg 8 (.v 21) .move),
      (none, .asg 9 (.v 22) .copy)])
    (.seq
     (.seq
      (.region [] [] [1, 8, 9, 24] false [
        (none, .mv 23 (.v 9)),
        (none, .bin 24 .neq (.v 23) (.c (.int .i64 0)))])
      (.cond (.v 24)
       (.seq
        (.region [] [] [6, 7] false [
          (none, .mv 25 (.v 9)),
          (none, .asg 6 (.c (.int .i64 0)) .copy),
          (none, .asg 7 (.v 25) .copy)])
        (.ret [6, 7]))
       (.skip [1, 8])))
     (.seq
      (.region [] [] [1, 8, 10] false [
        (none, .asg 10 (.c (.int .i64 (-1))) .copy)])
      (.seq
       (.region [(26, 8, false)] [] [1, 8, 10, 11] false [
         (none, .mv 26 (.v 8)),
         (none, .len 27 false (.v 26)),
         (none, .asg 11 (.v 27) .copy)])
       (.seq
        (.seq
         (.region [] [] [1, 8, 10, 11, 12] false [
           (none, .asg 12 (.c (.int .i64 0)) .copy)])
         (.block 0
          (.loop
           (.seq
            (.seq
             (.region [(29, 1, false)] [] [1, 8, 10, 11, 12, 31] false [
               (none, .mv 28 (.v 12)),
               (none, .mv 29 (.v 1)),
               (none, .len 30 false (.v 29)),
               (none, .bin 31 .lss (.v 28) (.v 30))])
             (.cond (.v 31)
              (.skip [1, 8, 10, 11, 12])
              (.exit 0 [10])))
            (.seq
             (.block 1
              (.seq
               (.region [] [] [1, 8, 10, 11, 12, 13] false [
                 (none, .asg 13 (.c (.int .i64 0)) .copy)])
               (.seq
                (.seq
                 (.region [] [] [1, 8, 10, 11, 12, 13, 14] false [
                   (none, .asg 14 (.c (.int .i64 0)) .copy)])
                 (.block 2
                  (.loop
                   (.seq
                    (.seq
                     (.region [(35, 8, false)] [] [1, 8, 10, 11, 12, 13, 14, 37] false [
                       (none, .mv 34 (.v 14)),
                       (none, .mv 35 (.v 8)),
                       (none, .len 36 false (.v 35)),
                       (none, .bin 37 .lss (.v 34) (.v 36))])
                     (.cond (.v 37)
                      (.skip [1, 8, 10, 11, 12, 13, 14])
                      (.exit 2 [1, 8, 10, 11, 12, 13])))
                    (.seq
                     (.block 3
                      (.region [(43, 8, false), (41, 8, false)] [] [1, 8, 10, 11, 12, 13, 14] false [
                        (none, .mv 40 (.v 13)),
                        (none, .mv 41 (.v 8)),
                        (none, .mv 42 (.v 14)),
                        (none, .iadr 43 1 (.v 41) (.v 42)),
                        (none, .load 44 false 1 (.v 43) none),
                        (none, .mv 45 (.v 12)),
                        (none, .conv 46 .u64 (.v 45)),
                        (none, .bin 47 .shr (.v 44) (.v 46)),
                        (none, .bin 48 .and (.v 47) (.c (.int .i64 1))),
                        (none, .bin 49 .add (.v 40) (.v 48)),
                        (none, .asg 13 (.v 49) .copy)]))
                     (.region [] [] [1, 8, 10, 11, 12, 13, 14] false [
                       (none, .mv 38 (.v 14)),
                       (none, .bin 39 .add (.v 38) (.c (.int .i64 1))),
                       (none, .asg 14 (.v 39) .copy)]))))))
                (.seq
                 (.region [(51, 8, false)] [] [1, 8, 10, 11, 12, 15] false [
                   (none, .mv 50 (.v 13)),
                   (none, .mv 51 (.v 8)),
                   (none, .len 52 false (.v 51)),
                   (none, .mv 53 (.v 13)),
                   (none, .bin 54 .sub (.v 52) (.v 53)),
                   (none, .call (some 55) 606 false [((.v 50), false), ((.v 54), false)]),
                   (none, .asg 15 (.v 55) .copy)])
                 (.seq
                  (.region [] [] [1, 8, 10, 11, 12, 15, 58] false [
                    (none, .mv 56 (.v 15)),
                    (none, .mv 57 (.v 11)),
                    (none, .bin 58 .lss (.v 56) (.v 57))])
                  (.cond (.v 58)
                   (.seq
                    (.region [] [] [1, 8, 10, 12, 15] false [
                      (none, .mv 59 (.v 12)),
                      (none, .asg 10 (.v 59) .copy)])
                    (.region [] [] [1, 8, 10, 11, 12] false [
                      (none, .mv 60 (.v 15)),
                      (none, .asg 11 (.v 60) .copy)]))
                   (.skip [1, 8, 10, 11, 12])))))))
             (.region [] [] [1, 8, 10, 11, 12] false [
               (none, .mv 32 (.v 12)),
               (none, .bin 33 .add (.v 32) (.c (.int .i64 1))),
               (none, .asg 12 (.v 33) .copy)]))))))
        (.seq
         (.seq
          (.region [] [] [10, 62] false [
            (none, .mv 61 (.v 10)),
            (none, .bin 62 .lss (.v 61) (.c (.int .i64 0)))])
          (.cond (.v 62)
           (.seq
            (.region [] [] [6, 7] false [
              (none, .asg 6 (.c (.int .i64 0)) .copy),
              (none, .asg 7 (.c (.int .i64 6)) .copy)])
            (.ret [6, 7]))
           (.skip [10])))
         (.seq
          (.region [] [] [6, 7] false [
            (none, .mv 63 (.v 10)),
            (none, .asg 6 (.v 63) .copy),
            (none, .asg 7 (.c (.int .i64 0)) .copy)])
          (.ret [6, 7])))))))))⟩
def F603 : PFunc :=
 ⟨[false], [.tmp 2],
  (.seq
   (.region [] [] [0] false [
     (none, .asg 2 (.c .nilp) .copy)])
   (.seq
    (.region [(3, 0, false)] [] [2] false [
      (none, .mv 3 (.v 0)),
      (none, .build 4 [(.sl false 1 []), (.int .i64 0), (.int .u64 0)] [(0, 1, (.v 3), .move)]),
      (none, .box 5 (.v 4) .move),
      (none, .asg 2 (.v 5) .move)])
    (.ret [2])))⟩
def F5 : PFunc :=
 ⟨[true], [.tmp 2],
  (.seq
   (.region [] [] [0] false [
     (none, .asg 2 (.c (.int .i64 0)) .copy)])
   (.seq
    (.region [] [] [0, 3] false [
      (none, .asg 3 (.c (.int .i64 0)) .copy)])
    (.seq
     (.seq
      (.region [(11, 0, true), (10, 0, false), (9, 0, false), (8, 0, false), (6, 0, false), (5, 0, false), (4, 0, false)] [] [0, 3, 13] true [
        (none, .mvr 4 0),
        (none, .nchk 5 (.v 4)),
        (none, .fadr 6 1 1 (.v 5)),
        (none, .load 7 false 1 (.v 6) none),
        (none, .mvr 8 0),
        (none, .nchk 9 (.v 8)),
        (none, .fadr 10 0 1 (.v 9)),
        (none, .load 11 false 1 (.v 10) none),
        (none, .len 12 false (.v 11)),
        (none, .bin 13 .lss (.v 7) (.v 12))])
      (.cond (.v 13)
       (.region [(22, 0, true), (20, 0, false), (19, 0, false), (18, 0, false), (17, 0, true), (16, 0, false), (15, 0, false), (14, 0, false)] [] [0, 3] true [
         (none, .mvr 14 0),
         (none, .nchk 15 (.v 14)),
         (none, .fadr 16 0 1 (.v 15)),
         (none, .load 17 false 1 (.v 16) none),
         (none, .mvr 18 0),
         (none, .nchk 19 (.v 18)),
         (none, .fadr 20 1 1 (.v 19)),
         (none, .load 21 false 1 (.v 20) none),
         (none, .iadr 22 1 (.v 17) (.v 21)),
         (none, .load 23 false 1 (.v 22) none),
         (none, .conv 24 .i64 (.v 23)),
         (none, .asg 3 (.v 24) .copy)])
       (.skip [0, 3])))
     (.seq
      (.region [(31, 0, false), (30, 0, false), (27, 0, false), (26, 0, false), (25, 0, false)] [] [0, 3] false [
        (none, .mv 25 (.v 0)),
        (none, .nchk 26 (.v 25)),
        (none, .fadr 27 1 1 (.v 26)),
        (none, .load 28 false 1 (.v 27) none),
        (none, .bin 29 .add (.v 28) (.c (.int .i64 1))),
        (none, .nchk 30 (.v 25)),
        (none, .fadr 31 1 1 (.v 30)),
        (none, .store 1 (.v 31) (.v 29) .copy)])
      (.seq
       (.region [(43, 0, false), (42, 0, false), (35, 0, false), (34, 0, false), (33, 0, false), (32, 0, false)] [] [0, 3] false [
         (none, .mv 32 (.v 0)),
         (none, .mv 33 (.v 0)),
         (none, .nchk 34 (.v 33)),
         (none, .fadr 35 2 1 (.v 34)),
         (none, .load 36 false 1 (.v 35) none),
         (none, .bin 37 .mul (.v 36) (.c (.int .u64 6364136223846793005))),
         (none, .mv 38 (.v 3)),
         (none, .conv 39 .u64 (.v 38)),
         (none, .bin 40 .add (.v 37) (.v 39)),
         (none, .bin 41 .add (.v 40) (.c (.int .u64 1442695040888963407))),
         (none, .nchk 42 (.v 32)),
         (none, .fadr 43 2 1 (.v 42)),
         (none, .store 1 (.v 43) (.v 41) .copy)])
       (.seq
        (.seq
         (.region [(51, 0, true), (50, 0, false), (49, 0, false), (48, 0, false), (46, 0, false), (45, 0, false), (44, 0, false)] [] [0, 3, 53] true [
           (none, .mvr 44 0),
           (none, .nchk 45 (.v 44)),
           (none, .fadr 46 1 1 (.v 45)),
           (none, .load 47 false 1 (.v 46) none),
           (none, .mvr 48 0),
           (none, .nchk 49 (.v 48)),
           (none, .fadr 50 0 1 (.v 49)),
           (none, .load 51 false 1 (.v 50) none),
           (none, .len 52 false (.v 51)),
           (none, .bin 53 .leq (.v 47) (.v 52))])
         (.cond (.v 53)
          (.seq
           (.region [] [] [0, 2] false [
             (none, .mv 54 (.v 3)),
             (none, .asg 2 (.v 54) .copy)])
           (.ret [0, 2]))
          (.skip [0])))
        (.seq
         (.region [(57, 0, false), (56, 0, false), (55, 0, false)] [] [0, 2] false [
           (none, .mv 55 (.v 0)),
           (none, .nchk 56 (.v 55)),
           (none, .fadr 57 2 1 (.v 56)),
           (none, .load 58 false 1 (.v 57) none),
           (none, .bin 59 .shr (.v 58) (.c (.int .u64 40))),
           (none, .bin 60 .and (.v 59) (.c (.int .u64 255))),
           (none, .conv 61 .i64 (.v 60)),
           (none, .asg 2 (.v 61) .copy)])
         (.ret [0, 2]))))))))⟩
def F7 : PFunc :=
 ⟨[true, false], [.tmp 4],
  (.seq
   (.region [] [] [0, 1] false [
     (none, .asg 4 (.c (.int .i64 0)) .copy)])
   (.seq
    (.seq
     (.region [] [] [0, 1, 7] false [
       (none, .mv 6 (.v 1)),
       (none, .bin 7 .leq (.v 6) (.c (.int .i64 1)))])
     (.cond (.v 7)
      (.seq
       (.region [] [] [0, 4] false [
         (none, .asg 4 (.c (.int .i64 0)) .copy)])
       (.ret [0, 4]))
      (.skip [0, 1])))
    (.seq
     (.region [(8, 0, false)] [] [0, 1, 5] false [
       (none, .mv 8 (.v 0)),
       (none, .call (some 9) 5 true [((.v 8), true)]),
       (none, .asg 5 (.v 9) .copy)])
     (.seq
      (.seq
       (.region [] [] [0, 1, 5, 11] false [
         (none, .mv 10 (.v 1)),
         (none, .bin 11 .gtr (.v 10) (.c (.int .i64 200)))])
       (.cond (.v 11)
        (.region [(14, 0, false)] [] [0, 1, 5] false [
          (none, .mv 12 (.v 5)),
          (none, .bin 13 .mul (.v 12) (.c (.int .i64 256))),
          (none, .mv 14 (.v 0)),
          (none, .call (some 15) 5 true [((.v 14), true)]),
          (none, .bin 16 .add (.v 13) (.v 15)),
          (none, .asg 5 (.v 16) .copy)])
        (.skip [0, 1, 5])))
      (.seq
       (.region [] [] [0, 4] false [
         (none, .mv 17 (.v 5)),
         (none, .mv 18 (.v 1)),
         (none, .bin 19 .rem (.v 17) (.v 18)),
         (none, .asg 4 (.v 19) .copy)])
       (.ret [0, 4]))))))⟩
def F4 : PFunc :=
 ⟨[true, false], [.tmp 4],
  (.seq
   (.region [] [] [0, 1] false [
     (none, .asg 4 (.c (.int .i64 0)) .copy)])
   (.seq
    (.region [(10, 1, false), (7, 1, false), (6, 0, false), (5, 1, false)] [] [0, 4] false [
      (none, .mv 5 (.v 1)),
      (none, .mv 6 (.v 0)),
      (none, .mv 7 (.v 1)),
      (none, .len 8 false (.v 7)),
      (none, .call (some 9) 7 true [((.v 6), true), ((.v 8), false)]),
      (none, .iadr 10 1 (.v 5) (.v 9)),
      (none, .load 11 false 1 (.v 10) none),
      (none, .asg 4 (.v 11) .copy)])
    (.ret [0, 4])))⟩
def F8 : PFunc :=
 ⟨[true, false], [.tmp 4],
  (.seq
   (.region [] [] [0, 1] false [
     (none, .asg 4 (.c (.str [])) .copy)])
   (.seq
    (.region [(10, 1, false), (7, 1, false), (6, 0, false), (5, 1, false)] [] [0, 4] false [
      (none, .mv 5 (.v 1)),
      (none, .mv 6 (.v 0)),
      (none, .mv 7 (.v 1)),
      (none, .len 8 false (.v 7)),
      (none, .call (some 9) 7 true [((.v 6), true), ((.v 8), false)]),
      (none, .iadr 10 1 (.v 5) (.v 9)),
      (none, .load 11 false 1 (.v 10) none),
      (none, .asg 4 (.v 11) .copy)])
    (.ret [0, 4])))⟩
def F6 : PFunc :=
 ⟨[true, false], [.tmp 4],
  (.seq
   (.region [] [] [0, 1] false [
     (none, .asg 4 (.c (.bool false)) .copy)])
   (.seq
    (.region [(5, 0, false)] [] [0, 4] false [
      (none, .mv 5 (.v 0)),
      (none, .mv 6 (.v 1)),
      (none, .call (some 7) 7 true [((.v 5), true), ((.v 6), false)]),
      (none, .bin 8 .eql (.v 7) (.c (.int .i64 0))),
      (none, .asg 4 (.v 8) .copy)])
    (.ret [0, 4])))⟩
def F773 : PFunc :=
 ⟨[true, false, false], [.tmp 6],
  (.seq
   (.region [] [] [0, 1, 2] false [
     (none, .asg 6 (.c (.sl true 1 [])) .copy)])
   (.seq
    (.region [] [] [0, 1, 2, 7] false [
      (none, .mksl 9 1 (.int .i64 0) 0 []),
      (none, .asg 7 (.v 9) .move)])
    (.seq
     (.seq
      (.region [] [] [0, 1, 2, 7, 8] false [
        (none, .asg 8 (.c (.int .i64 0)) .copy)])
      (.block 0
       (.loop
        (.seq
         (.seq
          (.region [] [] [0, 1, 2, 7, 8, 12] false [
            (none, .mv 10 (.v 8)),
            (none, .mv 11 (.v 1)),
            (none, .bin 12 .lss (.v 10) (.v 11))])
          (.cond (.v 12)
           (.skip [0, 1, 2, 7, 8])
           (.exit 0 [0, 7])))
         (.seq
          (.block 1
           (.seq
            (.region [(15, 0, false)] [] [0, 1, 2, 7, 8, 17] false [
              (none, .mv 15 (.v 0)),
              (none, .mv 16 (.v 2)),
              (none, .call (some 17) 6 true [((.v 15), true), ((.v 16), false)])])
            (.cond (.v 17)
             (.region [(18, 7, false)] [] [0, 1, 2, 7, 8] false [
               (none, .mv 18 (.v 7)),
               (none, .mv 19 (.v 8)),
               (none, .mksl 20 1 (.int .i64 0) 1 [(0, (.v 19), .copy)]),
               (none, .app 21 1 (.v 18) (.v 20) .move),
               (none, .asg 7 (.v 21) .move)])
             (.skip [0, 1, 2, 7, 8]))))
          (.region [] [] [0, 1, 2, 7, 8] false [
            (none, .mv 13 (.v 8)),
            (none, .bin 14 .add (.v 13) (.c (.int .i64 1))),
            (none, .asg 8 (.v 14) .copy)]))))))
     (.seq
      (.region [(22, 7, false)] [] [0, 6] false [
        (none, .mv 22 (.v 7)),
        (none, .asg 6 (.v 22) .move)])
      (.ret [0, 6])))))⟩
def F768 : PFunc :=
 ⟨[true], [.tmp 2, .tmp 3],
  (.seq
   (.region [] [] [0] false [
     (none, .asg 2 (.c (.int .i64 0)) .copy),
     (none, .asg 3 (.c (.sl true 2 [])) .copy)])
   (.seq
    (.region [] [] [0, 4] false [
      (none, .mksl 10 1 (.str []) 7 [(0, (.c (.str [98, 117, 114, 110, 116])), .copy), (1, (.c (.str [99, 114, 97, 99, 107, 101, 100])), .copy), (2, (.c (.str [100, 117, 115, 116])), .copy), (3, (.c (.str [108, 111, 111, 115, 101, 45, 49])), .copy), (4, (.c (.str [108, 111, 111, 115, 101, 45, 50])), .copy), (5, (.c (.str [115, 109, 111, 107, 101])), .copy), (6, (.c (.str [119, 105, 99, 107])), .copy)]),
      (none, .asg 4 (.v 10) .move)])
    (.seq
     (.region [(11, 0, false)] [] [0, 4, 5] false [
       (none, .mv 11 (.v 0)),
       (none, .call (some 12) 7 true [((.v 11), true), ((.c (.int .i64 6)), false)]),
       (none, .bin 13 .add (.c (.int .i64 2)) (.v 12)),
       (none, .asg 5 (.v 13) .copy)])
     (.seq
      (.region [] [] [0, 4, 5, 6] false [
        (none, .mksl 14 2 (.agg [(.str []), (.sl true 1 [])]) 0 []),
        (none, .asg 6 (.v 14) .move)])
      (.seq
       (.seq
        (.region [(15, 0, false)] [] [0, 4, 5, 6, 7] false [
          (none, .mv 15 (.v 0)),
          (none, .call (some 16) 7 true [((.v 15), true), ((.c (.int .i64 7)), false)]),
          (none, .asg 7 (.v 16) .copy)])
        (.block 0
         (.loop
          (.seq
           (.seq
            (.region [] [] [0, 4, 5, 6, 7, 18] false [
              (none, .mv 17 (.v 7)),
              (none, .bin 18 .gtr (.v 17) (.c (.int .i64 0)))])
            (.cond (.v 18)
             (.skip [0, 4, 5, 6, 7])
             (.exit 0 [0, 5, 6])))
           (.seq
            (.block 1
             (.seq
              (.region [(26, 0, false), (24, 4, false), (22, 6, false), (21, 4, false)] [] [0, 4, 5, 6, 7, 8] true [
                (none, .mvr 21 4),
                (none, .mvr 22 6),
                (none, .len 23 false (.v 22)),
                (none, .iadr 24 1 (.v 21) (.v 23)),
                (none, .load 25 false 1 (.v 24) none),
                (none, .mvr 26 0),
                (none, .mv 27 (.v 5)),
                (none, .call (some 28) 773 true [((.v 26), true), ((.v 27), false), ((.c (.int .i64 3)), false)]),
                (none, .build 29 [(.str []), (.sl true 1 [])] [(0, 1, (.v 25), .copy), (1, 1, (.v 28), .move)]),
                (none, .new 8 (.agg [(.str []), (.sl true 1 [])])),
                (none, .store 2 (.v 8) (.v 29) .move)])
              (.seq
               (.seq
                (.region [(31, 8, true), (30, 8, false)] [] [0, 4, 5, 6, 7, 8, 33] false [
                  (none, .fadr 30 1 1 (.v 8)),
                  (none, .load 31 false 1 (.v 30) none),
                  (none, .len 32 false (.v 31)),
                  (none, .bin 33 .eql (.v 32) (.c (.int .i64 0)))])
                (.cond (.v 33)
                 (.region [(38, 8, false), (34, 0, false)] [] [0, 4, 5, 6, 7, 8] false [
                   (none, .mv 34 (.v 0)),
                   (none, .mv 35 (.v 5)),
                   (none, .call (some 36) 7 true [((.v 34), true), ((.v 35), false)]),
                   (none, .mksl 37 1 (.int .i64 0) 1 [(0, (.v 36), .copy)]),
                   (none, .fadr 38 1 1 (.v 8)),
                   (none, .store 1 (.v 38) (.v 37) .move)])
                 (.skip [0, 4, 5, 6, 7, 8])))
               (.region [(39, 6, false)] [] [0, 4, 5, 6, 7] false [
                 (none, .mv 39 (.v 6)),
                 (none, .load 40 true 2 (.v 8) (some .move)),
                 (none, .mksl 41 2 (.agg [(.str []), (.sl true 1 [])]) 1 [(0, (.v 40), .move)]),
                 (none, .app 42 2 (.v 39) (.v 41) .move),
                 (none, .asg 6 (.v 42) .move)]))))
            (.region [] [] [0, 4, 5, 6, 7] false [
              (none, .mv 19 (.v 7)),
              (none, .bin 20 .sub (.v 19) (.c (.int .i64 1))),
              (none, .asg 7 (.v 20) .copy)]))))))
       (.seq
        (.seq
         (.region [(43, 0, false)] [] [0, 5, 6, 44] false [
           (none, .mv 43 (.v 0)),
           (none, .call (some 44) 7 true [((.v 43), true), ((.c (.int .i64 28)), false)])])
         (.block 2
          (.seq
           (.region [] [] [0, 5, 6, 44, 45] false [
             (none, .bin 46 .eql (.v 44) (.c (.int .i64 0))),
             (none, .asg 45 (.v 46) .copy)])
           (.cond (.v 45)
            (.region [(47, 0, false)] [] [0, 5, 6] false [
              (none, .mv 47 (.v 0)),
              (none, .mksl 48 1 (.int .i64 0) 6 [(0, (.c (.int .i64 (-1))), .copy), (1, (.c (.int .i64 0)), .copy), (2, (.c (.int .i64 1)), .copy), (3, (.c (.int .i64 16)), .copy), (4, (.c (.int .i64 17)), .copy), (5, (.c (.int .i64 (-9223372036854775808))), .copy)]),
              (none, .call (some 49) 4 true [((.v 47), true), ((.v 48), false)]),
              (none, .asg 5 (.v 49) .copy)])
            (.seq
             (.region [] [] [0, 5, 6, 44, 50] false [
               (none, .bin 51 .eql (.v 44) (.c (.int .i64 1))),
               (none, .asg 50 (.v 51) .copy)])
             (.cond (.v 50)
              (.region [(53, 0, false), (52, 6, false)] [] [0, 5, 6] false [
                (none, .mv 52 (.v 6)),
                (none, .mv 53 (.v 0)),
                (none, .mksl 54 1 (.str []) 4 [(0, (.c (.str [])), .copy), (1, (.c (.str [68, 117, 115, 116])), .copy), (2, (.c (.str [100, 117, 115, 116])), .copy), (3, (.c (.str [104, 101, 97, 116])), .copy)]),
                (none, .call (some 55) 8 true [((.v 53), true), ((.v 54), false)]),
                (none, .mksl 56 1 (.int .i64 0) 1 [(0, (.c (.int .i64 0)), .copy)]),
                (none, .build 57 [(.str []), (.sl true 1 [])] [(0, 1, (.v 55), .copy), (1, 1, (.v 56), .move)]),
                (none, .mksl 58 2 (.agg [(.str []), (.sl true 1 [])]) 1 [(0, (.v 57), .move)]),
                (none, .app 59 2 (.v 52) (.v 58) .move),
                (none, .asg 6 (.v 59) .move)])
              (.seq
               (.region [] [] [0, 5, 6, 44, 60] false [
                 (none, .bin 61 .eql (.v 44) (.c (.int .i64 2))),
                 (none, .asg 60 (.v 61) .copy)])
               (.cond (.v 60)
                (.region [(63, 0, false), (62, 6, false)] [] [0, 5, 6] false [
                  (none, .mv 62 (.v 6)),
                  (none, .mv 63 (.v 0)),
                  (none, .mv 64 (.v 5)),
                  (none, .bin 65 .sub (.v 64) (.c (.int .i64 1))),
                  (none, .mv 66 (.v 5)),
                  (none, .mksl 67 1 (.int .i64 0) 4 [(0, (.c (.int .i64 (-1))), .copy), (1, (.c (.int .i64 0)), .copy), (2, (.v 65), .copy), (3, (.v 66), .copy)]),
                  (none, .call (some 68) 4 true [((.v 63), true), ((.v 67), false)]),
                  (none, .mksl 69 1 (.int .i64 0) 1 [(0, (.v 68), .copy)]),
                  (none, .build 70 [(.str []), (.sl true 1 [])] [(0, 1, (.c (.str [104, 101, 97, 116])), .copy), (1, 1, (.v 69), .move)]),
                  (none, .mksl 71 2 (.agg [(.str []), (.sl true 1 [])]) 1 [(0, (.v 70), .move)]),
                  (none, .app 72 2 (.v 62) (.v 71) .move),
                  (none, .asg 6 (.v 72) .move)])
                (.seq
                 (.region [] [] [0, 5, 6, 44, 73] false [
                   (none, .bin 74 .eql (.v 44) (.c (.int .i64 3))),
                   (none, .asg 73 (.v 74) .copy)])
                 (.cond (.v 73)
                  (.region [(75, 6, false)] [] [0, 5, 6] false [
                    (none, .mv 75 (.v 6)),
                    (none, .mksl 76 1 (.int .i64 0) 0 []),
                    (none, .build 77 [(.str []), (.sl true 1 [])] [(0, 1, (.c (.str [104, 101, 97, 116])), .copy), (1, 1, (.v 76), .move)]),
                    (none, .mksl 78 2 (.agg [(.str []), (.sl true 1 [])]) 1 [(0, (.v 77), .move)]),
                    (none, .app 79 2 (.v 75) (.v 78) .move),
                    (none, .asg 6 (.v 79) .move)])
                  (.seq
                   (.region [] [] [0, 5, 6, 80] false [
                     (none, .bin 81 .eql (.v 44) (.c (.int .i64 4))),
                     (none, .asg 80 (.v 81) .copy)])
                   (.cond (.v 80)
                    (.seq
                     (.region [] [] [0, 5, 6] false [
                       (none, .mksl 82 2 (.agg [(.str []), (.sl true 1 [])]) 0 []),
                       (none, .asg 6 (.v 82) .move)])
                     (.seq
                      (.region [(83, 0, false)] [] [0, 5, 6, 9] false [
                        (none, .mv 83 (.v 0)),
                        (none, .call (some 84) 7 true [((.v 83), true), ((.c (.int .i64 2)), false)]),
                        (none, .bin 85 .add (.c (.int .i64 10)) (.v 84)),
                        (none, .asg 9 (.v 85) .copy)])
                      (.block 3
                       (.loop
                        (.seq
                         (.seq
                          (.region [] [] [0, 5, 6, 9, 87] false [
                            (none, .mv 86 (.v 9)),
                            (none, .bin 87 .gtr (.v 86) (.c (.int .i64 0)))])
                          (.cond (.v 87)
                           (.skip [0, 5, 6, 9])
                           (.exit 3 [0, 5, 6])))
                         (.seq
                          (.block 4
                           (.region [(91, 6, false), (90, 6, false)] [] [0, 5, 6, 9] false [
                             (none, .mv 90 (.v 6)),
                             (none, .mv 91 (.v 6)),
                             (none, .len 92 false (.v 91)),
                             (none, .conv 93 .u8 (.v 92)),
                             (none, .bin 94 .add (.c (.int .u8 97)) (.v 93)),
                             (none, .mksl 95 1 (.int .u8 0) 1 [(0, (.v 94), .copy)]),
                             (none, .b2s 96 (.v 95)),
                             (none, .bin 97 .add (.c (.str [99])) (.v 96)),
                             (none, .mv 98 (.v 9)),
                             (none, .bin 99 .rem (.v 98) (.c (.int .i64 2))),
                             (none, .mksl 100 1 (.int .i64 0) 1 [(0, (.v 99), .copy)]),
                             (none, .build 101 [(.str []), (.sl true 1 [])] [(0, 1, (.v 97), .copy), (1, 1, (.v 100), .move)]),
                             (none, .mksl 102 2 (.agg [(.str []), (.sl true 1 [])]) 1 [(0, (.v 101), .move)]),
                             (none, .app 103 2 (.v 90) (.v 102) .move),
                             (none, .asg 6 (.v 103) .move)]))
                          (.region [] [] [0, 5, 6, 9] false [
                            (none, .mv 88 (.v 9)),
                            (none, .bin 89 .sub (.v 88) (.c (.int .i64 1))),
                            (none, .asg 9 (.v 89) .copy)])))))))
                    (.skip [0, 5, 6])))))))))))))
        (.seq
         (.region [(105, 6, false)] [] [0, 2, 3] false [
           (none, .mv 104 (.v 5)),
           (none, .mv 105 (.v 6)),
           (none, .asg 2 (.v 104) .copy),
           (none, .asg 3 (.v 105) .move)])
         (.ret [0, 2, 3]))))))))⟩
def F607 : PFunc :=
 ⟨[false, false], [.tmp 4],
  (.seq
   (.region [] [] [0, 1] false [
     (none, .asg 4 (.c (.int .i64 0)) .copy)])
   (.seq
    (.seq
     (.region [] [] [0, 1, 7] false [
       (none, .mv 5 (.v 0)),
       (none, .mv 6 (.v 1)),
       (none, .bin 7 .lss (.v 5) (.v 6))])
     (.cond (.v 7)
      (.seq
       (.region [] [] [4] false [
         (none, .mv 8 (.v 0)),
         (none, .asg 4 (.v 8) .copy)])
       (.ret [4]))
      (.skip [1])))
    (.seq
     (.region [] [] [4] false [
       (none, .mv 9 (.v 1)),
       (none, .asg 4 (.v 9) .copy)])
     (.ret [4]))))⟩
def F771 : PFunc :=
 ⟨[false], [.tmp 2],
  (.seq
   (.region [] [] [0] false [
     (none, .asg 2 (.c (.sl true 1 [])) .copy)])
   (.seq
    (.region [] [] [0, 3] false [
      (none, .mksl 5 1 (.int .i64 0) 0 []),
      (none, .asg 3 (.v 5) .move)])
    (.seq
     (.seq
      (.region [] [] [0, 3, 4] false [
        (none, .asg 4 (.c (.int .i64 0)) .copy)])
      (.block 0
       (.loop
        (.seq
         (.seq
          (.region [] [] [0, 3, 4, 7] false [
            (none, .mv 6 (.v 4)),
            (none, .bin 7 .lss (.v 6) (.c (.int .i64 20)))])
          (.cond (.v 7)
           (.skip [0, 3, 4])
           (.exit 0 [3])))
         (.seq
          (.block 1
           (.seq
            (.region [] [] [0, 3, 4, 15] false [
              (none, .mv 10 (.v 0)),
              (none, .mv 11 (.v 4)),
              (none, .conv 12 .u64 (.v 11)),
              (none, .bin 13 .shr (.v 10) (.v 12)),
              (none, .bin 14 .and (.v 13) (.c (.int .i64 1))),
              (none, .bin 15 .eql (.v 14) (.c (.int .i64 1)))])
            (.cond (.v 15)
             (.region [(16, 3, false)] [] [0, 3, 4] false [
               (none, .mv 16 (.v 3)),
               (none, .mv 17 (.v 4)),
               (none, .mksl 18 1 (.int .i64 0) 1 [(0, (.v 17), .copy)]),
               (none, .app 19 1 (.v 16) (.v 18) .move),
               (none, .asg 3 (.v 19) .move)])
             (.skip [0, 3, 4]))))
          (.region [] [] [0, 3, 4] false [
            (none, .mv 8 (.v 4)),
            (none, .bin 9 .add (.v 8) (.c (.int .i64 1))),
            (none, .asg 4 (.v 9) .copy)]))))))
     (.seq
      (.region [(20, 3, false)] [] [2] false [
        (none, .mv 20 (.v 3)),
        (none, .asg 2 (.v 20) .move)])
      (.ret [2])))))⟩
def F769 : PFunc :=
 ⟨[true, false, false], [.tmp 6],
  (.seq
   (.region [] [] [0, 1, 2] false [
     (none, .asg 6 (.c (.sl true 1 [])) .copy)])
   (.seq
    (.seq
     (.region [(7, 0, false)] [] [0, 1, 2, 8] false [
       (none, .mv 7 (.v 0)),
       (none, .call (some 8) 6 true [((.v 7), true), ((.c (.int .i64 12)), false)])])
     (.cond (.v 8)
      (.seq
       (.region [(9, 0, false)] [] [0, 6] false [
         (none, .mv 9 (.v 0)),
         (none, .mv 10 (.v 1)),
         (none, .bin 11 .sub (.v 10) (.c (.int .i64 1))),
         (none, .mv 12 (.v 1)),
         (none, .mksl 13 1 (.int .i64 0) 4 [(0, (.c (.int .i64 (-1))), .copy), (1, (.c (.int .i64 0)), .copy), (2, (.v 11), .copy), (3, (.v 12), .copy)]),
         (none, .call (some 14) 4 true [((.v 9), true), ((.v 13), false)]),
         (none, .mksl 15 1 (.int .i64 0) 1 [(0, (.v 14), .copy)]),
         (none, .asg 6 (.v 15) .move)])
       (.ret [0, 6]))
      (.skip [0, 1, 2])))
    (.seq
     (.seq
      (.region [(20, 0, false), (17, 2, false)] [] [0, 1, 2, 23] false [
        (none, .mv 16 (.v 1)),
        (none, .mv 17 (.v 2)),
        (none, .call (some 18) 772 false [((.v 16), false), ((.v 17), false)]),
        (none, .mv 19 (.v 18)),
        (some (19, true), .mv 20 (.v 0)),
        (some (19, true), .call (some 21) 6 true [((.v 20), true), ((.c (.int .i64 4)), false)]),
        (some (19, true), .un 22 .not (.v 21)),
        (none, .pick 23 (.v 19) (.v 22) (.c (.bool false)))])
      (.cond (.v 23)
       (.seq
        (.region [(26, 2, false), (25, 0, false), (24, 2, false)] [] [0, 6] false [
          (none, .mv 24 (.v 2)),
          (none, .mv 25 (.v 0)),
          (none, .mv 26 (.v 2)),
          (none, .len 27 false (.v 26)),
          (none, .conv 28 .u64 (.v 27)),
          (none, .bin 29 .shl (.c (.int .i64 1)) (.v 28)),
          (none, .call (some 30) 7 true [((.v 25), true), ((.v 29), false)]),
          (none, .call (some 31) 774 false [((.v 24), false), ((.v 30), false)]),
          (none, .call (some 32) 771 false [((.v 31), false)]),
          (none, .asg 6 (.v 32) .move)])
        (.ret [0, 6]))
       (.skip [0, 1])))
     (.seq
      (.region [(33, 0, false)] [] [0, 6] false [
        (none, .mv 33 (.v 0)),
        (none, .mv 34 (.v 1)),
        (none, .call (some 35) 607 false [((.v 34), false), ((.c (.int .i64 20)), false)]),
        (none, .call (some 36) 773 true [((.v 33), true), ((.v 35), false), ((.c (.int .i64 2)), false)]),
        (none, .asg 6 (.v 36) .move)])
      (.ret [0, 6])))))⟩
def F765 : PFunc :=
 ⟨[false], [.tmp 2, .tmp 3, .tmp 4],
  (.seq
   (.region [] [] [0] false [
     (none, .asg 2 (.c (.int .i64 0)) .copy),
     (none, .asg 3 (.c (.sl true 2 [])) .copy),
     (none, .asg 4 (.c (.sl true 1 [])) .copy)])
   (.seq
    (.region [(8, 0, false)] [] [5] false [
      (none, .mv 8 (.v 0)),
      (none, .call (some 9) 603 true [((.v 8), false)]),
      (none, .asg 5 (.v 9) .move)])
    (.seq
     (.region [(11, 5, false)] [] [5, 6, 7] false [
       (none, .mv 11 (.v 5)),
       (none, .call (some 12) 768 true [((.v 11), true)]),
       (none, .asg 10 (.v 12) .move),
       (none, .extp 13 (.v 10) 0),
       (none, .ext 14 (.v 10) 1),
       (none, .asg 6 (.v 13) .copy),
       (none, .asg 7 (.v 14) .move)])
     (.seq
      (.region [(19, 7, false), (17, 5, false), (16, 7, false)] [] [2, 3, 4] false [
        (none, .mv 15 (.v 6)),
        (none, .mv 16 (.v 7)),
        (none, .mv 17 (.v 5)),
        (none, .mv 18 (.v 6)),
        (none, .mv 19 (.v 7)),
        (none, .call (some 20) 769 true [((.v 17), true), ((.v 18), false), ((.v 19), false)]),
        (none, .asg 2 (.v 15) .copy),
        (none, .asg 3 (.v 16) .move),
        (none, .asg 4 (.v 20) .move)])
      (.ret [2, 3, 4])))))⟩
def F457 : PFunc :=
 ⟨[false], [.tmp 2, .tmp 3, .tmp 4],
  (.seq
   (.region [] [] [0] false [
     (none, .asg 2 (.c (.int .i64 0)) .copy),
     (none, .asg 3 (.c (.sl true 2 [])) .copy),
     (none, .asg 4 (.c (.sl true 1 [])) .copy)])
   (.seq
    (.region [(5, 0, false)] [] [2, 3, 4] false [
      (none, .mv 5 (.v 0)),
      (none, .call (some 6) 765 true [((.v 5), false)]),
      (none, .extp 7 (.v 6) 0),
      (none, .extp 8 (.v 6) 1),
      (none, .ext 9 (.v 6) 2),
      (none, .asg 2 (.v 7) .copy),
      (none, .asg 3 (.v 8) .move),
      (none, .asg 4 (.v 9) .move)])
    (.ret [2, 3, 4])))⟩
def F770 : PFunc :=
 ⟨[true, false], [.tmp 4],
  (.seq
   (.region [] [] [0, 1] false [
     (none, .asg 4 (.c (.sl true 1 [])) .copy)])
   (.seq
    (.region [(7, 1, false), (6, 0, false)] [] [0, 1, 5] false [
      (none, .mv 6 (.v 0)),
      (none, .mv 7 (.v 1)),
      (none, .len 8 false (.v 7)),
      (none, .call (some 9) 773 true [((.v 6), true), ((.v 8), false), ((.c (.int .i64 2)), false)]),
      (none, .asg 5 (.v 9) .move)])
    (.seq
     (.seq
      (.region [(10, 0, false)] [] [0, 1, 5, 11] false [
        (none, .mv 10 (.v 0)),
        (none, .call (some 11) 6 true [((.v 10), true), ((.c (.int .i64 12)), false)])])
      (.cond (.v 11)
       (.region [(14, 1, false), (13, 0, false), (12, 5, false)] [] [0, 5] false [
         (none, .mv 12 (.v 5)),
         (none, .mv 13 (.v 0)),
         (none, .mv 14 (.v 1)),
         (none, .len 15 false (.v 14)),
         (none, .mksl 16 1 (.int .i64 0) 3 [(0, (.c (.int .i64 (-1))), .copy), (1, (.c (.int .i64 0)), .copy), (2, (.v 15), .copy)]),
         (none, .call (some 17) 4 true [((.v 13), true), ((.v 16), false)]),
         (none, .mksl 18 1 (.int .i64 0) 1 [(0, (.v 17), .copy)]),
         (none, .app 19 1 (.v 12) (.v 18) .move),
         (none, .asg 5 (.v 19) .move)])
       (.skip [0, 5])))
     (.seq
      (.region [(20, 5, false)] [] [0, 4] false [
        (none, .mv 20 (.v 5)),
        (none, .asg 4 (.v 20) .move)])
      (.ret [0, 4])))))⟩
def F466 : PFunc :=
 ⟨[false], [.tmp 2, .tmp 3, .tmp 4, .tmp 5],
  (.seq
   (.region [] [] [0] false [
     (none, .asg 2 (.c (.int .i64 0)) .copy),
     (none, .asg 3 (.c (.sl true 2 [])) .copy),
     (none, .asg 4 (.c (.sl true 1 [])) .copy),
     (none, .asg 5 (.c (.sl true 1 [])) .copy)])
   (.seq
    (.region [(10, 0, false)] [] [6] false [
      (none, .mv 10 (.v 0)),
      (none, .call (some 11) 603 true [((.v 10), false)]),
      (none, .asg 6 (.v 11) .move)])
    (.seq
     (.region [(13, 6, false)] [] [6, 7, 8] false [
       (none, .mv 13 (.v 6)),
       (none, .call (some 14) 768 true [((.v 13), true)]),
       (none, .asg 12 (.v 14) .move),
       (none, .extp 15 (.v 12) 0),
       (none, .ext 16 (.v 12) 1),
       (none, .asg 7 (.v 15) .copy),
       (none, .asg 8 (.v 16) .move)])
     (.seq
      (.region [(18, 8, false), (17, 6, false)] [] [6, 7, 8, 9] false [
        (none, .mv 17 (.v 6)),
        (none, .mv 18 (.v 8)),
        (none, .call (some 19) 770 true [((.v 17), true), ((.v 18), false)]),
        (none, .asg 9 (.v 19) .move)])
      (.seq
       (.seq
        (.region [(31, 6, false), (25, 8, false), (24, 9, false), (21, 8, false)] [] [6, 7, 8, 9, 33] false [
          (none, .mv 20 (.v 7)),
          (none, .mv 21 (.v 8)),
          (none, .call (some 22) 772 false [((.v 20), false), ((.v 21), false)]),
          (none, .mv 23 (.v 22)),
          (some (23, true), .mv 24 (.v 9)),
          (some (23, true), .mv 25 (.v 8)),
          (some (23, true), .len 26 false (.v 25)),
          (some (23, true), .bin 27 .sub (.v 26) (.c (.int .i64 1))),
          (some (23, true), .call (some 28) 609 false [((.v 24), false), ((.c (.int .i64 0)), false), ((.v 27), false)]),
          (none, .pick 29 (.v 23) (.v 28) (.c (.bool false))),
          (none, .mv 30 (.v 29)),
          (some (30, true), .mv 31 (.v 6)),
          (some (30, true), .call (some 32) 6 true [((.v 31), true), ((.c (.int .i64 2)), false)]),
          (none, .pick 33 (.v 30) (.v 32) (.c (.bool false)))])
        (.cond (.v 33)
         (.seq
          (.region [(38, 9, false), (37, 8, false), (36, 9, false), (35, 8, false)] [] [2, 3, 4, 5] false [
            (none, .mv 34 (.v 7)),
            (none, .mv 35 (.v 8)),
            (none, .mv 36 (.v 9)),
            (none, .mv 37 (.v 8)),
            (none, .mv 38 (.v 9)),
            (none, .call (some 39) 766 false [((.v 38), false)]),
            (none, .call (some 40) 774 false [((.v 37), false), ((.v 39), false)]),
            (none, .call (some 41) 771 false [((.v 40), false)]),
            (none, .asg 2 (.v 34) .copy),
            (none, .asg 3 (.v 35) .move),
            (none, .asg 4 (.v 36) .move),
            (none, .asg 5 (.v 41) .move)])
          (.ret [2, 3, 4, 5]))
         (.skip [6, 7, 8, 9])))
       (.seq
        (.region [(47, 8, false), (45, 6, false), (44, 9, false), (43, 8, false)] [] [2, 3, 4, 5] false [
          (none, .mv 42 (.v 7)),
          (none, .mv 43 (.v 8)),
          (none, .mv 44 (.v 9)),
          (none, .mv 45 (.v 6)),
          (none, .mv 46 (.v 7)),
          (none, .mv 47 (.v 8)),
          (none, .call (some 48) 769 true [((.v 45), true), ((.v 46), false), ((.v 47), false)]),
          (none, .asg 2 (.v 42) .copy),
          (none, .asg 3 (.v 43) .move),
          (none, .asg 4 (.v 44) .move),
          (none, .asg 5 (.v 48) .move)])
        (.ret [2, 3, 4, 5])))))))⟩
def F496 : PFunc :=
 ⟨[false], [.tmp 2, .tmp 3, .tmp 4],
  (.seq
   (.region [] [] [0] false [
     (none, .asg 2 (.c (.int .i64 0)) .copy),
     (none, .asg 3 (.c (.sl true 2 [])) .copy),
     (none, .asg 4 (.c (.sl true 1 [])) .copy)])
   (.seq
    (.region [(8, 0, false)] [] [5] false [
      (none, .mv 8 (.v 0)),
      (none, .call (some 9) 603 true [((.v 8), false)]),
      (none, .asg 5 (.v 9) .move)])
    (.seq
     (.region [(11, 5, false)] [] [5, 6, 7] false [
       (none, .mv 11 (.v 5)),
       (none, .call (some 12) 768 true [((.v 11), true)]),
       (none, .asg 10 (.v 12) .move),
       (none, .extp 13 (.v 10) 0),
       (none, .ext 14 (.v 10) 1),
       (none, .asg 6 (.v 13) .copy),
       (none, .asg 7 (.v 14) .move)])
     (.seq
      (.region [(18, 7, false), (17, 5, false), (16, 7, false)] [] [2, 3, 4] false [
        (none, .mv 15 (.v 6)),
        (none, .mv 16 (.v 7)),
        (none, .mv 17 (.v 5)),
        (none, .mv 18 (.v 7)),
        (none, .call (some 19) 770 true [((.v 17), true), ((.v 18), false)]),
        (none, .asg 2 (.v 15) .copy),
        (none, .asg 3 (.v 16) .move),
        (none, .asg 4 (.v 19) .move)])
      (.ret [2, 3, 4])))))⟩
def F514 : PFunc :=
 ⟨[false, false, false, false], [.tmp 8, .tmp 9],
  (.seq
   (.region [] [] [0, 1, 2, 3] false [
     (none, .asg 8 (.c (.bool false)) .copy),
     (none, .asg 9 (.c (.int .i64 0)) .copy)])
   (.seq
    (.seq
     (.region [(11, 1, false)] [] [0, 1, 2, 3, 13] false [
       (none, .mv 10 (.v 0)),
       (none, .mv 11 (.v 1)),
       (none, .call (some 12) 772 false [((.v 10), false), ((.v 11), false)]),
       (none, .un 13 .not (.v 12))])
     (.cond (.v 13)
      (.seq
       (.region [] [] [8, 9] false [
         (none, .asg 8 (.c (.bool false)) .copy),
         (none, .asg 9 (.c (.int .i64 1)) .copy)])
       (.ret [8, 9]))
      (.skip [0, 1, 2, 3])))
    (.seq
     (.seq
      (.region [(21, 3, false), (15, 1, false), (14, 2, false)] [] [1, 2, 3, 26] false [
        (none, .mv 14 (.v 2)),
        (none, .mv 15 (.v 1)),
        (none, .len 16 false (.v 15)),
        (none, .bin 17 .sub (.v 16) (.c (.int .i64 1))),
        (none, .call (some 18) 609 false [((.v 14), false), ((.c (.int .i64 0)), false), ((.v 17), false)]),
        (none, .un 19 .not (.v 18)),
        (none, .mv 20 (.v 19)),
        (some (20, false), .mv 21 (.v 3)),
        (some (20, false), .mv 22 (.v 0)),
        (some (20, false), .bin 23 .sub (.v 22) (.c (.int .i64 1))),
        (some (20, false), .call (some 24) 609 false [((.v 21), false), ((.c (.int .i64 0)), false), ((.v 23), false)]),
        (some (20, false), .un 25 .not (.v 24)),
        (none, .pick 26 (.v 20) (.c (.bool true)) (.v 25))])
      (.cond (.v 26)
       (.seq
        (.region [] [] [8, 9] false [
          (none, .asg 8 (.c (.bool false)) .copy),
          (none, .asg 9 (.c (.int .i64 2)) .copy)])
        (.ret [8, 9]))
       (.skip [1, 2, 3])))
     (.seq
      (.region [(31, 3, false), (28, 2, false), (27, 1, false)] [] [8, 9] false [
        (none, .mv 27 (.v 1)),
        (none, .mv 28 (.v 2)),
        (none, .call (some 29) 766 false [((.v 28), false)]),
        (none, .call (some 30) 774 false [((.v 27), false), ((.v 29), false)]),
        (none, .mv 31 (.v 3)),
        (none, .call (some 32) 766 false [((.v 31), false)]),
        (none, .bin 33 .eql (.v 30) (.v 32)),
        (none, .asg 8 (.v 33) .copy),
        (none, .asg 9 (.c (.int .i64 0)) .copy)])
      (.ret [8, 9])))))⟩
def F571 : PFunc :=
 ⟨[false, false, false], [.tmp 6, .tmp 7],
  (.seq
   (.region [] [] [0, 1, 2] false [
     (none, .asg 6 (.c (.sl true 1 [])) .copy),
     (none, .asg 7 (.c (.int .i64 0)) .copy)])
   (.seq
    (.seq
     (.region [(9, 1, false)] [] [1, 2, 11] false [
       (none, .mv 8 (.v 0)),
       (none, .mv 9 (.v 1)),
       (none, .call (some 10) 772 false [((.v 8), false), ((.v 9), false)]),
       (none, .un 11 .not (.v 10))])
     (.cond (.v 11)
      (.seq
       (.region [] [] [6, 7] false [
         (none, .asg 6 (.c (.sl true 1 [])) .copy),
         (none, .asg 7 (.c (.int .i64 1)) .copy)])
       (.ret [6, 7]))
      (.skip [1, 2])))
    (.seq
     (.seq
      (.region [(13, 1, false), (12, 2, false)] [] [1, 2, 17] false [
        (none, .mv 12 (.v 2)),
        (none, .mv 13 (.v 1)),
        (none, .len 14 false (.v 13)),
        (none, .bin 15 .sub (.v 14) (.c (.int .i64 1))),
        (none, .call (some 16) 609 false [((.v 12), false), ((.c (.int .i64 0)), false), ((.v 15), false)]),
        (none, .un 17 .not (.v 16))])
      (.cond (.v 17)
       (.seq
        (.region [] [] [6, 7] false [
          (none, .asg 6 (.c (.sl true 1 [])) .copy),
          (none, .asg 7 (.c (.int .i64 2)) .copy)])
        (.ret [6, 7]))
       (.skip [1, 2])))
     (.seq
      (.region [(19, 2, false), (18, 1, false)] [] [6, 7] false [
        (none, .mv 18 (.v 1)),
        (none, .mv 19 (.v 2)),
        (none, .call (some 20) 766 false [((.v 19), false)]),
        (none, .call (some 21) 774 false [((.v 18), false), ((.v 20), false)]),
        (none, .call (some 22) 771 false [((.v 21), false)]),
        (none, .asg 6 (.v 22) .move),
        (none, .asg 7 (.c (.int .i64 0)) .copy)])
      (.ret [6, 7])))))⟩
def F370 : PFunc :=
 ⟨[false], [.tmp 2],
  (.seq
   (.region [] [] [0] false [
     (none, .asg 2 (.c (.bool false)) .copy)])
   (.seq
    (.seq
     (.region [(36, 0, false)] [] [0, 37] false [
       (none, .mv 36 (.v 0)),
       (none, .call (some 37) 398 false [((.v 36), false)])])
     (.cond (.v 37)
      (.seq
       (.region [] [] [2] false [
         (none, .asg 2 (.c (.bool true)) .copy)])
       (.ret [2]))
      (.skip [0])))
    (.seq
     (.region [(39, 0, false)] [] [0, 3, 4, 5] false [
       (none, .mv 39 (.v 0)),
       (none, .call (some 40) 457 true [((.v 39), false)]),
       (none, .asg 38 (.v 40) .move),
       (none, .extp 41 (.v 38) 0),
       (none, .extp 42 (.v 38) 1),
       (none, .ext 43 (.v 38) 2),
       (none, .asg 3 (.v 41) .copy),
       (none, .asg 4 (.v 42) .move),
       (none, .asg 5 (.v 43) .move)])
     (.seq
      (.region [(47, 5, false), (46, 4, false)] [] [0, 3, 4, 5, 6, 7] false [
        (none, .mv 45 (.v 3)),
        (none, .mv 46 (.v 4)),
        (none, .mv 47 (.v 5)),
        (none, .call (some 48) 53 false [((.v 45), false), ((.v 46), false), ((.v 47), false)]),
        (none, .asg 44 (.v 48) .copy),
        (none, .extp 49 (.v 44) 0),
        (none, .extp 50 (.v 44) 1),
        (none, .asg 6 (.v 49) .copy),
        (none, .asg 7 (.v 50) .copy)])
      (.seq
       (.region [(54, 5, false), (53, 4, false)] [] [0, 3, 4, 5, 6, 7, 8, 9] false [
         (none, .mv 52 (.v 3)),
         (none, .mv 53 (.v 4)),
         (none, .mv 54 (.v 5)),
         (none, .call (some 55) 441 false [((.v 52), false), ((.v 53), false), ((.v 54), false)]),
         (none, .asg 51 (.v 55) .copy),
         (none, .extp 56 (.v 51) 0),
         (none, .extp 57 (.v 51) 1),
         (none, .asg 8 (.v 56) .copy),
         (none, .asg 9 (.v 57) .copy)])
       (.seq
        (.region [(60, 4, false)] [] [0, 3, 4, 5, 6, 7, 8, 9, 10, 11] false [
          (none, .mv 59 (.v 3)),
          (none, .mv 60 (.v 4)),
          (none, .call (some 61) 40 false [((.v 59), false), ((.v 60), false)]),
          (none, .asg 58 (.v 61) .move),
          (none, .ext 62 (.v 58) 0),
          (none, .extp 63 (.v 58) 1),
          (none, .asg 10 (.v 62) .move),
          (none, .asg 11 (.v 63) .copy)])
        (.seq
         (.region [(66, 4, false)] [] [0, 3, 4, 5, 6, 7, 8, 9, 10, 11, 12, 13] false [
           (none, .mv 65 (.v 3)),
           (none, .mv 66 (.v 4)),
           (none, .call (some 67) 436 false [((.v 65), false), ((.v 66), false)]),
           (none, .asg 64 (.v 67) .move),
           (none, .ext 68 (.v 64) 0),
           (none, .extp 69 (.v 64) 1),
           (none, .asg 12 (.v 68) .move),
           (none, .asg 13 (.v 69) .copy)])
         (.seq
          (.region [(71, 0, false)] [] [0, 3, 4, 5, 6, 7, 8, 9, 10, 11, 12, 13, 14, 15, 16] false [
            (none, .mv 71 (.v 0)),
            (none, .call (some 72) 496 true [((.v 71), false)]),
            (none, .asg 70 (.v 72) .move),
            (none, .extp 73 (.v 70) 0),
            (none, .extp 74 (.v 70) 1),
            (none, .ext 75 (.v 70) 2),
            (none, .asg 14 (.v 73) .copy),
            (none, .asg 15 (.v 74) .move),
            (none, .asg 16 (.v 75) .move)])
          (.seq
           (.region [(79, 16, false), (78, 15, false)] [] [0, 3, 4, 5, 6, 7, 8, 9, 10, 11, 12, 13, 14, 15, 16, 17, 18] false [
             (none, .mv 77 (.v 14)),
             (none, .mv 78 (.v 15)),
             (none, .mv 79 (.v 16)),
             (none, .call (some 80) 184 false [((.v 77), false), ((.v 78), false), ((.v 79), false)]),
             (none, .asg 76 (.v 80) .move),
             (none, .ext 81 (.v 76) 0),
             (none, .extp 82 (.v 76) 1),
             (none, .asg 17 (.v 81) .move),
             (none, .asg 18 (.v 82) .copy)])
           (.seq
            (.region [(86, 16, false), (85, 15, false)] [] [0, 3, 4, 5, 6, 7, 8, 9, 10, 11, 12, 13, 15, 16, 17, 18, 19, 20] false [
              (none, .mv 84 (.v 14)),
              (none, .mv 85 (.v 15)),
              (none, .mv 86 (.v 16)),
              (none, .call (some 87) 571 false [((.v 84), false), ((.v 85), false), ((.v 86), false)]),
              (none, .asg 83 (.v 87) .move),
              (none, .ext 88 (.v 83) 0),
              (none, .extp 89 (.v 83) 1),
              (none, .asg 19 (.v 88) .move),
              (none, .asg 20 (.v 89) .copy)])
            (.seq
             (.region [(91, 0, false)] [] [3, 4, 5, 6, 7, 8, 9, 10, 11, 12, 13, 15, 16, 17, 18, 19, 20, 21, 22, 23, 24] false [
               (none, .mv 91 (.v 0)),
               (none, .call (some 92) 466 true [((.v 91), false)]),
               (none, .asg 90 (.v 92) .move),
               (none, .extp 93 (.v 90) 0),
               (none, .extp 94 (.v 90) 1),
               (none, .ext 95 (.v 90) 2),
               (none, .ext 96 (.v 90) 3),
               (none, .asg 21 (.v 93) .copy),
               (none, .asg 22 (.v 94) .move),
               (none, .asg 23 (.v 95) .move),
               (none, .asg 24 (.v 96) .move)])
             (.seq
              (.region [(101, 24, false), (100, 23, false), (99, 22, false)] [] [3, 4, 5, 6, 7, 8, 9, 10, 11, 12, 13, 15, 16, 17, 18, 19, 20, 21, 22, 23, 24, 25, 26] false [
                (none, .mv 98 (.v 21)),
                (none, .mv 99 (.v 22)),
                (none, .mv 100 (.v 23)),
                (none, .mv 101 (.v 24)),
                (none, .call (some 102) 82 false [((.v 98), false), ((.v 99), false), ((.v 100), false), ((.v 101), false)]),
                (none, .asg 97 (.v 102) .copy),
                (none, .extp 103 (.v 97) 0),
                (none, .extp 104 (.v 97) 1),
                (none, .asg 25 (.v 103) .copy),
                (none, .asg 26 (.v 104) .copy)])
              (.seq
               (.region [(109, 24, false), (108, 23, false), (107, 22, false)] [] [3, 4, 5, 6, 7, 8, 9, 10, 11, 12, 13, 15, 16, 17, 18, 19, 20, 21, 22, 23, 24, 25, 26, 27, 28] false [
                 (none, .mv 106 (.v 21)),
                 (none, .mv 107 (.v 22)),
                 (none, .mv 108 (.v 23)),
                 (none, .mv 109 (.v 24)),
                 (none, .call (some 110) 514 false [((.v 106), false), ((.v 107), false), ((.v 108), false), ((.v 109), false)]),
                 (none, .asg 105 (.v 110) .copy),
                 (none, .extp 111 (.v 105) 0),
                 (none, .extp 112 (.v 105) 1),
                 (none, .asg 27 (.v 111) .copy),
                 (none, .asg 28 (.v 112) .copy)])
               (.seq
                (.seq
                 (.region [(140, 19, false), (139, 17, false), (129, 12, false), (127, 10, false)] [] [3, 4, 5, 7, 8, 10, 12, 15, 16, 18, 19, 21, 22, 23, 24, 26, 27, 153] false [
                   (none, .mv 113 (.v 7)),
                   (none, .mv 114 (.v 9)),
                   (none, .bin 115 .neq (.v 113) (.v 114)),
                   (none, .mv 116 (.v 115)),
                   (some (116, false), .mv 117 (.v 6)),
                   (some (116, false), .mv 118 (.v 8)),
                   (some (116, false), .bin 119 .neq (.v 117) (.v 118)),
                   (none, .pick 120 (.v 116) (.c (.bool true)) (.v 119)),
                   (none, .mv 121 (.v 120)),
                   (some (121, false), .mv 122 (.v 11)),
                   (some (121, false), .mv 123 (.v 13)),
                   (some (121, false), .bin 124 .neq (.v 122) (.v 123)),
                   (none, .pick 125 (.v 121) (.c (.bool true)) (.v 124)),
                   (none, .mv 126 (.v 125)),
                   (some (126, false), .mv 127 (.v 10)),
                   (some (126, false), .len 128 false (.v 127)),
                   (some (126, false), .mv 129 (.v 12)),
                   (some (126, false), .len 130 false (.v 129)),
                   (some (126, false), .bin 131 .neq (.v 128) (.v 130)),
                   (none, .pick 132 (.v 126) (.c (.bool true)) (.v 131)),
                   (none, .mv 133 (.v 132)),
                   (some (133, false), .mv 134 (.v 18)),
                   (some (133, false), .mv 135 (.v 20)),
                   (some (133, false), .bin 136 .neq (.v 134) (.v 135)),
                   (none, .pick 137 (.v 133) (.c (.bool true)) (.v 136)),
                   (none, .mv 138 (.v 137)),
                   (some (138, false), .mv 139 (.v 17)),
                   (some (138, false), .mv 140 (.v 19)),
                   (some (138, false), .call (some 141) 400 false [((.v 139), false), ((.v 140), false)]),
                   (some (138, false), .un 142 .not (.v 141)),
                   (none, .pick 143 (.v 138) (.c (.bool true)) (.v 142)),
                   (none, .mv 144 (.v 143)),
                   (some (144, false), .mv 145 (.v 26)),
                   (some (144, false), .mv 146 (.v 28)),
                   (some (144, false), .bin 147 .neq (.v 145) (.v 146)),
                   (none, .pick 148 (.v 144) (.c (.bool true)) (.v 147)),
                   (none, .mv 149 (.v 148)),
                   (some (149, false), .mv 150 (.v 25)),
                   (some (149, false), .mv 151 (.v 27)),
                   (some (149, false), .eqb 152 true (.v 150) (.v 151)),
                   (none, .pick 153 (.v 149) (.c (.bool true)) (.v 152))])
                 (.cond (.v 153)
                  (.seq
                   (.region [] [] [2] false [
                     (none, .asg 2 (.c (.bool false)) .copy)])
                   (.ret [2]))
                  (.skip [3, 4, 5, 7, 8, 10, 12, 15, 16, 18, 19, 21, 22, 23, 24, 26, 27])))
                (.seq
                 (.seq
                  (.region [] [] [3, 4, 5, 7, 8, 10, 12, 15, 16, 18, 19, 21, 22, 23, 24, 26, 27, 29] false [
                    (none, .asg 29 (.c (.int .i64 0)) .copy)])
                  (.block 0
                   (.loop
                    (.seq
                     (.seq
                      (.region [(155, 12, false)] [] [3, 4, 5, 7, 8, 10, 12, 15, 16, 18, 19, 21, 22, 23, 24, 26, 27, 29, 157] false [
                        (none, .mv 154 (.v 29)),
                        (none, .mv 155 (.v 12)),
                        (none, .len 156 false (.v 155)),
                        (none, .bin 157 .lss (.v 154) (.v 156))])
                      (.cond (.v 157)
                       (.skip [3, 4, 5, 7, 8, 10, 12, 15, 16, 18, 19, 21, 22, 23, 24, 26, 27, 29])
                       (.exit 0 [3, 4, 5, 7, 8, 15, 16, 18, 19, 21, 22, 23, 24, 26, 27])))
                     (.seq
                      (.block 1
                       (.seq
                        (.region [(198, 4, true), (197, 4, false), (196, 4, false), (194, 12, true), (193, 12, true), (192, 12, false), (190, 12, false), (189, 4, false), (188, 4, true), (187, 4, false), (186, 4, false), (184, 12, true), (183, 12, true), (182, 12, false), (180, 12, false), (179, 4, false), (174, 12, true), (173, 12, false), (171, 12, false), (167, 12, true), (166, 12, false), (164, 12, false), (163, 10, true), (162, 10, false), (160, 10, false)] [] [3, 4, 5, 7, 8, 10, 12, 15, 16, 18, 19, 21, 22, 23, 24, 26, 27, 29, 201] true [
                          (none, .mvr 160 10),
                          (none, .mv 161 (.v 29)),
                          (none, .iadr 162 1 (.v 160) (.v 161)),
                          (none, .load 163 false 1 (.v 162) none),
                          (none, .mvr 164 12),
                          (none, .mv 165 (.v 29)),
                          (none, .iadr 166 1 (.v 164) (.v 165)),
                          (none, .load 167 false 1 (.v 166) none),
                          (none, .call (some 168) 400 false [((.v 163), false), ((.v 167), false)]),
                          (none, .un 169 .not (.v 168)),
                          (none, .mv 170 (.v 169)),
                          (some (170, false), .mvr 171 12),
                          (some (170, false), .mv 172 (.v 29)),
                          (some (170, false), .iadr 173 1 (.v 171) (.v 172)),
                          (some (170, false), .load 174 false 1 (.v 173) none),
                          (some (170, false), .len 175 false (.v 174)),
                          (some (170, false), .bin 176 .neq (.v 175) (.c (.int .i64 2))),
                          (none, .pick 177 (.v 170) (.c (.bool true)) (.v 176)),
                          (none, .mv 178 (.v 177)),
                          (some (178, false), .mv 179 (.v 4)),
                          (some (178, false), .mvr 180 12),
                          (some (178, false), .mv 181 (.v 29)),
                          (some (178, false), .iadr 182 1 (.v 180) (.v 181)),
                          (some (178, false), .load 183 false 1 (.v 182) none),
                          (some (178, false), .iadr 184 1 (.v 183) (.c (.int .i64 0))),
                          (some (178, false), .load 185 false 1 (.v 184) none),
                          (some (178, false), .iadr 186 2 (.v 179) (.v 185)),
                          (some (178, false), .fadr 187 1 1 (.v 186)),
                          (some (178, false), .load 188 false 1 (.v 187) none),
                          (some (178, false), .mv 189 (.v 4)),
                          (some (178, false), .mvr 190 12),
                          (some (178, false), .mv 191 (.v 29)),
                          (some (178, false), .iadr 192 1 (.v 190) (.v 191)),
                          (some (178, false), .load 193 false 1 (.v 192) none),
                          (some (178, false), .iadr 194 1 (.v 193) (.c (.int .i64 1))),
                          (some (178, false), .load 195 false 1 (.v 194) none),
                          (some (178, false), .iadr 196 2 (.v 189) (.v 195)),
                          (some (178, false), .fadr 197 1 1 (.v 196)),
                          (some (178, false), .load 198 false 1 (.v 197) none),
                          (some (178, false), .call (some 199) 400 false [((.v 188), false), ((.v 198), false)]),
                          (some (178, false), .un 200 .not (.v 199)),
                          (none, .pick 201 (.v 178) (.c (.bool true)) (.v 200))])
                        (.cond (.v 201)
                         (.seq
                          (.region [] [] [2] false [
                            (none, .asg 2 (.c (.bool false)) .copy)])
                          (.ret [2]))
                         (.skip [3, 4, 5, 7, 8, 10, 12, 15, 16, 18, 19, 21, 22, 23, 24, 26, 27, 29]))))
                      (.region [] [] [3, 4, 5, 7, 8, 10, 12, 15, 16, 18, 19, 21, 22, 23, 24, 26, 27, 29] false [
                        (none, .mv 158 (.v 29)),
                        (none, .bin 159 .add (.v 158) (.c (.int .i64 1))),
                        (none, .asg 29 (.v 159) .copy)]))))))
                 (.seq
                  (.seq
                   (.region [] [] [3, 4, 5, 7, 8, 15, 16, 19, 21, 22, 23, 24, 26, 27, 203] false [
                     (none, .mv 202 (.v 18)),
                     (none, .bin 203 .eql (.v 202) (.c (.int .i64 0)))])
                   (.cond (.v 203)
                    (.seq
                     (.region [] [] [3, 4, 5, 7, 8, 15, 16, 19, 21, 22, 23, 24, 26, 27, 30] false [
                       (none, .asg 30 (.c (.int .i64 0)) .copy)])
                     (.block 2
                      (.loop
                       (.seq
                        (.seq
                         (.region [(205, 16, false)] [] [3, 4, 5, 7, 8, 15, 16, 19, 21, 22, 23, 24, 26, 27, 30, 207] false [
                           (none, .mv 204 (.v 30)),
                           (none, .mv 205 (.v 16)),
                           (none, .len 206 false (.v 205)),
                           (none, .bin 207 .lss (.v 204) (.v 206))])
                         (.cond (.v 207)
                          (.skip [3, 4, 5, 7, 8, 15, 16, 19, 21, 22, 23, 24, 26, 27, 30])
                          (.exit 2 [3, 4, 5, 7, 8, 21, 22, 23, 24, 26, 27])))
                        (.seq
                         (.block 3
                          (.seq
                           (.region [] [] [3, 4, 5, 7, 8, 15, 16, 19, 21, 22, 23, 24, 26, 27, 30, 31] false [
                             (none, .asg 31 (.c (.int .i64 0)) .copy)])
                           (.block 4
                            (.loop
                             (.seq
                              (.seq
                               (.region [(218, 15, true), (217, 15, false), (216, 15, false), (214, 16, false), (212, 16, false), (211, 15, false)] [] [3, 4, 5, 7, 8, 15, 16, 19, 21, 22, 23, 24, 26, 27, 30, 31, 220] false [
                                 (none, .mv 210 (.v 31)),
                                 (none, .mv 211 (.v 15)),
                                 (none, .mv 212 (.v 16)),
                                 (none, .mv 213 (.v 30)),
                                 (none, .iadr 214 1 (.v 212) (.v 213)),
                                 (none, .load 215 false 1 (.v 214) none),
                                 (none, .iadr 216 2 (.v 211) (.v 215)),
                                 (none, .fadr 217 1 1 (.v 216)),
                                 (none, .load 218 false 1 (.v 217) none),
                                 (none, .len 219 false (.v 218)),
                                 (none, .bin 220 .lss (.v 210) (.v 219))])
                               (.cond (.v 220)
                                (.skip [3, 4, 5, 7, 8, 15, 16, 19, 21, 22, 23, 24, 26, 27, 30, 31])
                                (.exit 4 [3, 4, 5, 7, 8, 15, 16, 19, 21, 22, 23, 24, 26, 27, 30])))
                              (.seq
                               (.block 5
                                (.seq
                                 (.region [(233, 15, true), (231, 15, true), (230, 15, false), (229, 15, false), (227, 16, false), (225, 16, false), (224, 15, false), (223, 19, false)] [] [3, 4, 5, 7, 8, 15, 16, 19, 21, 22, 23, 24, 26, 27, 30, 31, 236] false [
                                   (none, .mv 223 (.v 19)),
                                   (none, .mv 224 (.v 15)),
                                   (none, .mv 225 (.v 16)),
                                   (none, .mv 226 (.v 30)),
                                   (none, .iadr 227 1 (.v 225) (.v 226)),
                                   (none, .load 228 false 1 (.v 227) none),
                                   (none, .iadr 229 2 (.v 224) (.v 228)),
                                   (none, .fadr 230 1 1 (.v 229)),
                                   (none, .load 231 false 1 (.v 230) none),
                                   (none, .mv 232 (.v 31)),
                                   (none, .iadr 233 1 (.v 231) (.v 232)),
                                   (none, .load 234 false 1 (.v 233) none),
                                   (none, .call (some 235) 399 false [((.v 223), false), ((.v 234), false)]),
                                   (none, .un 236 .not (.v 235))])
                                 (.cond (.v 236)
                                  (.seq
                                   (.region [] [] [2] false [
                                     (none, .asg 2 (.c (.bool false)) .copy)])
                                   (.ret [2]))
                                  (.skip [3, 4, 5, 7, 8, 15, 16, 19, 21, 22, 23, 24, 26, 27, 30, 31]))))
                               (.region [] [] [3, 4, 5, 7, 8, 15, 16, 19, 21, 22, 23, 24, 26, 27, 30, 31] false [
                                 (none, .mv 221 (.v 31)),
                                 (none, .bin 222 .add (.v 221) (.c (.int .i64 1))),
                                 (none, .asg 31 (.v 222) .copy)])))))))
                         (.region [] [] [3, 4, 5, 7, 8, 15, 16, 19, 21, 22, 23, 24, 26, 27, 30] false [
                           (none, .mv 208 (.v 30)),
                           (none, .bin 209 .add (.v 208) (.c (.int .i64 1))),
                           (none, .asg 30 (.v 209) .copy)]))))))
                    (.skip [3, 4, 5, 7, 8, 21, 22, 23, 24, 26, 27])))
                  (.seq
                   (.seq
                    (.region [] [] [3, 4, 5, 7, 8, 21, 22, 23, 24, 27, 238] false [
                      (none, .mv 237 (.v 26)),
                      (none, .bin 238 .eql (.v 237) (.c (.int .i64 0)))])
                    (.cond (.v 238)
                     (.seq
                      (.region [(242, 23, false), (241, 22, false)] [] [3, 4, 5, 7, 8, 24, 27, 32, 33] false [
                        (none, .mv 240 (.v 21)),
                        (none, .mv 241 (.v 22)),
                        (none, .mv 242 (.v 23)),
                        (none, .call (some 243) 184 false [((.v 240), false), ((.v 241), false), ((.v 242), false)]),
                        (none, .asg 239 (.v 243) .move),
                        (none, .ext 244 (.v 239) 0),
                        (none, .extp 245 (.v 239) 1),
                        (none, .asg 32 (.v 244) .move),
                        (none, .asg 33 (.v 245) .copy)])
                      (.seq
                       (.region [(251, 24, false), (250, 32, false)] [] [3, 4, 5, 7, 8, 254] false [
                         (none, .mv 246 (.v 33)),
                         (none, .bin 247 .neq (.v 246) (.c (.int .i64 0))),
                         (none, .mv 248 (.v 247)),
                         (some (248, false), .mv 249 (.v 27)),
                         (some (248, false), .mv 250 (.v 32)),
                         (some (248, false), .mv 251 (.v 24)),
                         (some (248, false), .call (some 252) 400 false [((.v 250), false), ((.v 251), false)]),
                         (some (248, false), .eqb 253 true (.v 249) (.v 252)),
                         (none, .pick 254 (.v 248) (.c (.bool true)) (.v 253))])
                       (.cond (.v 254)
                        (.seq
                         (.region [] [] [2] false [
                           (none, .asg 2 (.c (.bool false)) .copy)])
                         (.ret [2]))
                        (.skip [3, 4, 5, 7, 8]))))
                     (.skip [3, 4, 5, 7, 8])))
                   (.seq
                    (.seq
                     (.region [] [] [3, 4, 5, 8, 256] false [
                       (none, .mv 255 (.v 7)),
                       (none, .bin 256 .neq (.v 255) (.c (.int .i64 0)))])
                     (.cond (.v 256)
                      (.seq
                       (.region [] [] [2] false [
                         (none, .asg 2 (.c (.bool true)) .copy)])
                       (.ret [2]))
                      (.skip [3, 4, 5, 8])))
                    (.seq
                     (.region [(260, 5, false), (259, 4, false)] [] [8, 34, 35] false [
                       (none, .mv 258 (.v 3)),
                       (none, .mv 259 (.v 4)),
                       (none, .mv 260 (.v 5)),
                       (none, .call (some 261) 195 false [((.v 258), false), ((.v 259), false), ((.v 260), false)]),
                       (none, .asg 257 (.v 261) .move),
                       (none, .ext 262 (.v 257) 0),
                       (none, .extp 263 (.v 257) 1),
                       (none, .asg 34 (.v 262) .move),
                       (none, .asg 35 (.v 263) .copy)])
                     (.seq
                      (.region [(267, 34, false)] [] [2] false [
                        (none, .mv 264 (.v 35)),
                        (none, .bin 265 .eql (.v 264) (.c (.int .i64 0))),
                        (none, .mv 266 (.v 265)),
                        (some (266, true), .mv 267 (.v 34)),
                        (some (266, true), .mv 268 (.v 8)),
                        (some (266, true), .call (some 269) 399 false [((.v 267), false), ((.v 268), false)]),
                        (some (266, true), .un 270 .not (.v 269)),
                        (none, .pick 271 (.v 266) (.v 270) (.c (.bool false))),
                        (none, .asg 2 (.v 271) .copy)])
                      (.ret [2])))))))))))))))))))))⟩
def tabl : List (Nat × PFunc) := [(116, F116), (209, F209), (326, F326), (276, F276), (821, F821), (799, F799), (208, F208), (811, F811), (40, F40), (256, F256), (273, F273), (308, F308), (266, F266), (305, F305), (53, F53), (82, F82), (184, F184), (195, F195), (398, F398), (399, F399), (400, F400), (766, F766), (612, F612), (613, F613), (533, F533), (605, F605), (609, F609), (772, F772), (436, F436), (606, F606), (774, F774), (764, F764), (767, F767), (775, F775), (441, F441), (603, F603), (5, F5), (7, F7), (4, F4), (8, F8), (6, F6), (773, F773), (768, F768), (607, F607), (771, F771), (769, F769), (765, F765), (457, F457), (770, F770), (466, F466), (496, F496), (514, F514), (571, F571), (370, F370)]
def T : Nat → Option PFunc := tabOf tabl
end Go.Vs.G
