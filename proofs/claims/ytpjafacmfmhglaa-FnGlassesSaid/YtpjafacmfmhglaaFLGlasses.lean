/- The functions that the law reaches, in the small language, printed by program. No conditions. -/
import Derived.Test.YtpjafacmfmhglaaDLGlasses
import Derived.Test.YtpjafacmfmhglaaV4
set_option maxRecDepth 100000
open Go Go.Vs
namespace Go.Vs.G
def F22 : PFunc :=
 ⟨[false, false], [.tmp 3],
  (.seq
   (.region [] [] [1, 2] false [
     (none, .box 2 (.v 0) .copy),
     (none, .asg 3 (.c (.bool false)) .copy)])
   (.seq
    (.region [(18, 2, false), (16, 1, true), (14, 2, false), (13, 1, true), (9, 2, false), (7, 1, true), (5, 2, false), (4, 1, true)] [] [3] true [
      (none, .load 4 false 1 (.v 1) none),
      (none, .fadr 5 0 1 (.v 2)),
      (none, .load 6 false 1 (.v 5) none),
      (none, .iadr 7 1 (.v 4) (.v 6)),
      (none, .load 8 false 1 (.v 7) none),
      (none, .fadr 9 1 1 (.v 2)),
      (none, .load 10 false 1 (.v 9) none),
      (none, .bin 11 .eql (.v 8) (.v 10)),
      (none, .mv 12 (.v 11)),
      (some (12, true), .load 13 false 1 (.v 1) none),
      (some (12, true), .fadr 14 2 1 (.v 2)),
      (some (12, true), .load 15 false 1 (.v 14) none),
      (some (12, true), .iadr 16 1 (.v 13) (.v 15)),
      (some (12, true), .load 17 false 1 (.v 16) none),
      (some (12, true), .fadr 18 3 1 (.v 2)),
      (some (12, true), .load 19 false 1 (.v 18) none),
      (some (12, true), .bin 20 .eql (.v 17) (.v 19)),
      (none, .pick 21 (.v 12) (.v 20) (.c (.bool false))),
      (none, .asg 3 (.v 21) .copy)])
    (.ret [3])))⟩
def F820 : PFunc :=
 ⟨[false, false], [.tmp 4],
  (.seq
   (.region [] [] [0, 1] false [
     (none, .asg 4 (.c (.int .i64 0)) .copy)])
   (.seq
    (.seq
     (.region [(6, 0, false)] [] [0, 1, 7, 8] false [
       (none, .mv 6 (.v 0)),
       (none, .len 7 false (.v 6)),
       (none, .mv 8 (.c (.int .i64 0)))])
     (.block 0
      (.loop
       (.seq
        (.region [] [] [0, 1, 7, 8, 9] false [
          (none, .bin 9 .lss (.v 8) (.v 7))])
        (.seq
         (.cond (.v 9)
          (.skip [0, 1, 7, 8])
          (.exit 0 []))
         (.seq
          (.block 1
           (.seq
            (.region [] [] [0, 1, 5, 7, 8] false [
              (none, .mv 10 (.v 8)),
              (none, .asg 5 (.v 10) .copy)])
            (.seq
             (.region [(14, 0, false), (12, 0, false), (11, 1, false)] [] [0, 1, 5, 7, 8, 16] false [
               (none, .mv 11 (.v 1)),
               (none, .mv 12 (.v 0)),
               (none, .mv 13 (.v 5)),
               (none, .iadr 14 4 (.v 12) (.v 13)),
               (none, .load 15 true 4 (.v 14) none),
               (none, .callv (some 16) (.v 11) [(.v 15)])])
             (.cond (.v 16)
              (.seq
               (.region [] [] [4] false [
                 (none, .mv 17 (.v 5)),
                 (none, .asg 4 (.v 17) .copy)])
               (.ret [4]))
              (.skip [0, 1, 7, 8])))))
          (.region [] [] [0, 1, 7, 8] false [
            (none, .bin 18 .add (.v 8) (.c (.int .i64 1))),
            (none, .mv 8 (.v 18))])))))))
    (.seq
     (.region [] [] [4] false [
       (none, .asg 4 (.c (.int .i64 (-1))) .copy)])
     (.ret [4]))))⟩
def F798 : PFunc :=
 ⟨[false, false], [.tmp 4],
  (.seq
   (.region [] [] [0, 1] false [
     (none, .asg 4 (.c (.bool false)) .copy)])
   (.seq
    (.region [(6, 1, false), (5, 0, false)] [] [4] false [
      (none, .mv 5 (.v 0)),
      (none, .mv 6 (.v 1)),
      (none, .call (some 7) 820 false [((.v 5), false), ((.v 6), false)]),
      (none, .bin 8 .geq (.v 7) (.c (.int .i64 0))),
      (none, .asg 4 (.v 8) .copy)])
    (.ret [4])))⟩
def F21 : PFunc :=
 ⟨[false, false], [.tmp 4],
  (.seq
   (.region [] [] [2, 3] false [
     (none, .box 2 (.v 0) .move),
     (none, .box 3 (.v 1) .move),
     (none, .asg 4 (.c (.bool false)) .copy)])
   (.seq
    (.region [(6, 2, true), (5, 2, false)] [3] [4] false [
      (none, .fadr 5 1 1 (.v 2)),
      (none, .load 6 false 1 (.v 5) none),
      (none, .mkfn 7 22 [3]),
      (none, .call (some 8) 798 false [((.v 6), false), ((.v 7), false)]),
      (none, .un 9 .not (.v 8)),
      (none, .asg 4 (.v 9) .copy)])
    (.ret [4])))⟩
def F326 : PFunc :=
 ⟨[false, false, false], [.tmp 6],
  (.seq
   (.region [] [] [0, 1, 2] false [
     (none, .asg 6 (.c (.bool false)) .copy)])
   (.seq
    (.region [] [] [6] false [
      (none, .mv 7 (.v 0)),
      (none, .mv 8 (.v 1)),
      (none, .bin 9 .geq (.v 7) (.v 8)),
      (none, .mv 10 (.v 9)),
      (some (10, true), .mv 11 (.v 0)),
      (some (10, true), .mv 12 (.v 2)),
      (some (10, true), .bin 13 .leq (.v 11) (.v 12)),
      (none, .pick 14 (.v 10) (.v 13) (.c (.bool false))),
      (none, .asg 6 (.v 14) .copy)])
    (.ret [6])))⟩
def F24 : PFunc :=
 ⟨[false, false], [.tmp 4],
  (.seq
   (.region [] [] [1, 2] false [
     (none, .box 2 (.v 0) .move),
     (none, .asg 4 (.c (.bool false)) .copy)])
   (.seq
    (.seq
     (.region [(10, 2, true), (9, 2, false), (7, 1, false)] [] [1, 2, 12] false [
       (none, .mv 7 (.v 1)),
       (none, .len 8 false (.v 7)),
       (none, .fadr 9 0 1 (.v 2)),
       (none, .load 10 false 1 (.v 9) none),
       (none, .len 11 false (.v 10)),
       (none, .bin 12 .neq (.v 8) (.v 11))])
     (.cond (.v 12)
      (.seq
       (.region [] [] [4] false [
         (none, .asg 4 (.c (.bool false)) .copy)])
       (.ret [4]))
      (.skip [1, 2])))
    (.seq
     (.seq
      (.region [(13, 1, false)] [] [1, 2, 13, 14, 15] false [
        (none, .mv 13 (.v 1)),
        (none, .len 14 false (.v 13)),
        (none, .mv 15 (.c (.int .i64 0)))])
      (.block 0
       (.loop
        (.seq
         (.region [(13, 1, false)] [] [1, 2, 13, 14, 15, 16] false [
           (none, .bin 16 .lss (.v 15) (.v 14))])
         (.seq
          (.cond (.v 16)
           (.skip [1, 2, 13, 14, 15])
           (.exit 0 []))
          (.seq
           (.block 1
            (.seq
             (.region [(18, 1, false), (13, 1, false)] [] [1, 2, 5, 6, 13, 14, 15] false [
               (none, .mv 17 (.v 15)),
               (none, .iadr 18 1 (.v 13) (.v 15)),
               (none, .load 19 false 1 (.v 18) none),
               (none, .asg 5 (.v 17) .copy),
               (none, .asg 6 (.v 19) .copy)])
             (.seq
              (.region [(24, 2, true), (22, 2, true), (21, 2, false), (13, 1, false)] [] [1, 2, 13, 14, 15, 28] false [
                (none, .mv 20 (.v 6)),
                (none, .fadr 21 0 1 (.v 2)),
                (none, .load 22 false 1 (.v 21) none),
                (none, .mv 23 (.v 5)),
                (none, .iadr 24 1 (.v 22) (.v 23)),
                (none, .load 25 false 1 (.v 24) none),
                (none, .bin 26 .sub (.v 25) (.c (.int .i64 1))),
                (none, .call (some 27) 326 false [((.v 20), false), ((.c (.int .i64 0)), false), ((.v 26), false)]),
                (none, .un 28 .not (.v 27))])
              (.cond (.v 28)
               (.seq
                (.region [] [] [4] false [
                  (none, .asg 4 (.c (.bool false)) .copy)])
                (.ret [4]))
               (.skip [1, 2, 13, 14, 15])))))
           (.region [(13, 1, false)] [] [1, 2, 13, 14, 15] false [
             (none, .bin 29 .add (.v 15) (.c (.int .i64 1))),
             (none, .mv 15 (.v 29))])))))))
     (.seq
      (.region [] [] [4] false [
        (none, .asg 4 (.c (.bool true)) .copy)])
      (.ret [4])))))⟩
def F233 : PFunc :=
 ⟨[false], [.tmp 2],
  (.seq
   (.region [] [] [0] false [
     (none, .asg 2 (.c (.bool false)) .copy)])
   (.seq
    (.region [] [] [2] false [
      (none, .mv 3 (.v 0)),
      (none, .call (some 4) 326 false [((.v 3), false), ((.c (.int .i64 1)), false), ((.c (.int .i64 4)), false)]),
      (none, .un 5 .not (.v 4)),
      (none, .asg 2 (.v 5) .copy)])
    (.ret [2])))⟩
def F234 : PFunc :=
 ⟨[false, false, false], [.tmp 4],
  (.seq
   (.region [] [] [1, 2, 3] false [
     (none, .box 3 (.v 0) .copy),
     (none, .asg 4 (.c (.bool false)) .copy)])
   (.seq
    (.region [(42, 2, true), (40, 3, false), (39, 2, true), (38, 2, false), (36, 3, false), (29, 2, true), (27, 3, false), (26, 2, true), (25, 2, false), (23, 3, false), (14, 3, false), (12, 3, false), (5, 3, false)] [] [4] true [
      (none, .fadr 5 0 1 (.v 3)),
      (none, .load 6 false 1 (.v 5) none),
      (none, .load 7 false 1 (.v 1) none),
      (none, .bin 8 .sub (.v 7) (.c (.int .i64 1))),
      (none, .call (some 9) 326 false [((.v 6), false), ((.c (.int .i64 0)), false), ((.v 8), false)]),
      (none, .un 10 .not (.v 9)),
      (none, .mv 11 (.v 10)),
      (some (11, false), .fadr 12 2 1 (.v 3)),
      (some (11, false), .load 13 false 1 (.v 12) none),
      (some (11, false), .fadr 14 0 1 (.v 3)),
      (some (11, false), .load 15 false 1 (.v 14) none),
      (some (11, false), .bin 16 .add (.v 15) (.c (.int .i64 1))),
      (some (11, false), .load 17 false 1 (.v 1) none),
      (some (11, false), .bin 18 .sub (.v 17) (.c (.int .i64 1))),
      (some (11, false), .call (some 19) 326 false [((.v 13), false), ((.v 16), false), ((.v 18), false)]),
      (some (11, false), .un 20 .not (.v 19)),
      (none, .pick 21 (.v 11) (.c (.bool true)) (.v 20)),
      (none, .mv 22 (.v 21)),
      (some (22, false), .fadr 23 1 1 (.v 3)),
      (some (22, false), .load 24 false 1 (.v 23) none),
      (some (22, false), .fadr 25 0 1 (.v 2)),
      (some (22, false), .load 26 false 1 (.v 25) none),
      (some (22, false), .fadr 27 0 1 (.v 3)),
      (some (22, false), .load 28 false 1 (.v 27) none),
      (some (22, false), .iadr 29 1 (.v 26) (.v 28)),
      (some (22, false), .load 30 false 1 (.v 29) none),
      (some (22, false), .bin 31 .sub (.v 30) (.c (.int .i64 1))),
      (some (22, false), .call (some 32) 326 false [((.v 24), false), ((.c (.int .i64 0)), false), ((.v 31), false)]),
      (some (22, false), .un 33 .not (.v 32)),
      (none, .pick 34 (.v 22) (.c (.bool true)) (.v 33)),
      (none, .mv 35 (.v 34)),
      (some (35, false), .fadr 36 3 1 (.v 3)),
      (some (35, false), .load 37 false 1 (.v 36) none),
      (some (35, false), .fadr 38 0 1 (.v 2)),
      (some (35, false), .load 39 false 1 (.v 38) none),
      (some (35, false), .fadr 40 2 1 (.v 3)),
      (some (35, false), .load 41 false 1 (.v 40) none),
      (some (35, false), .iadr 42 1 (.v 39) (.v 41)),
      (some (35, false), .load 43 false 1 (.v 42) none),
      (some (35, false), .bin 44 .sub (.v 43) (.c (.int .i64 1))),
      (some (35, false), .call (some 45) 326 false [((.v 37), false), ((.c (.int .i64 0)), false), ((.v 44), false)]),
      (some (35, false), .un 46 .not (.v 45)),
      (none, .pick 47 (.v 35) (.c (.bool true)) (.v 46)),
      (none, .asg 4 (.v 47) .copy)])
    (.ret [4])))⟩
def F818 : PFunc :=
 ⟨[false, false], [.tmp 4],
  (.seq
   (.region [] [] [0, 1] false [
     (none, .asg 4 (.c (.int .i64 0)) .copy)])
   (.seq
    (.seq
     (.region [(6, 0, false)] [] [0, 1, 7, 8] false [
       (none, .mv 6 (.v 0)),
       (none, .len 7 false (.v 6)),
       (none, .mv 8 (.c (.int .i64 0)))])
     (.block 0
      (.loop
       (.seq
        (.region [] [] [0, 1, 7, 8, 9] false [
          (none, .bin 9 .lss (.v 8) (.v 7))])
        (.seq
         (.cond (.v 9)
          (.skip [0, 1, 7, 8])
          (.exit 0 []))
         (.seq
          (.block 1
           (.seq
            (.region [] [] [0, 1, 5, 7, 8] false [
              (none, .mv 10 (.v 8)),
              (none, .asg 5 (.v 10) .copy)])
            (.seq
             (.region [(14, 0, false), (12, 0, false), (11, 1, false)] [] [0, 1, 5, 7, 8, 16] false [
               (none, .mv 11 (.v 1)),
               (none, .mv 12 (.v 0)),
               (none, .mv 13 (.v 5)),
               (none, .iadr 14 1 (.v 12) (.v 13)),
               (none, .load 15 false 1 (.v 14) none),
               (none, .callv (some 16) (.v 11) [(.v 15)])])
             (.cond (.v 16)
              (.seq
               (.region [] [] [4] false [
                 (none, .mv 17 (.v 5)),
                 (none, .asg 4 (.v 17) .copy)])
               (.ret [4]))
              (.skip [0, 1, 7, 8])))))
          (.region [] [] [0, 1, 7, 8] false [
            (none, .bin 18 .add (.v 8) (.c (.int .i64 1))),
            (none, .mv 8 (.v 18))])))))))
    (.seq
     (.region [] [] [4] false [
       (none, .asg 4 (.c (.int .i64 (-1))) .copy)])
     (.ret [4]))))⟩
def F796 : PFunc :=
 ⟨[false, false], [.tmp 4],
  (.seq
   (.region [] [] [0, 1] false [
     (none, .asg 4 (.c (.bool false)) .copy)])
   (.seq
    (.region [(6, 1, false), (5, 0, false)] [] [4] false [
      (none, .mv 5 (.v 0)),
      (none, .mv 6 (.v 1)),
      (none, .call (some 7) 818 false [((.v 5), false), ((.v 6), false)]),
      (none, .bin 8 .geq (.v 7) (.c (.int .i64 0))),
      (none, .asg 4 (.v 8) .copy)])
    (.ret [4])))⟩
def F232 : PFunc :=
 ⟨[false], [.tmp 2],
  (.seq
   (.region [] [3] [1] false [
     (none, .box 1 (.v 0) .move),
     (none, .asg 2 (.c (.bool false)) .copy)])
   (.seq
    (.region [(5, 1, true), (4, 1, false)] [1] [1, 3] false [
      (none, .fadr 4 0 1 (.v 1)),
      (none, .load 5 false 1 (.v 4) none),
      (none, .len 6 false (.v 5)),
      (none, .new 3 (.int .i64 0)),
      (none, .store 1 (.v 3) (.v 6) .copy)])
    (.seq
     (.seq
      (.region [(15, 1, true), (14, 1, false)] [3, 1] [1, 3, 17] false [
        (none, .load 7 false 1 (.v 3) none),
        (none, .bin 8 .lss (.v 7) (.c (.int .i64 1))),
        (none, .mv 9 (.v 8)),
        (some (9, false), .load 10 false 1 (.v 3) none),
        (some (9, false), .bin 11 .gtr (.v 10) (.c (.int .i64 4))),
        (none, .pick 12 (.v 9) (.c (.bool true)) (.v 11)),
        (none, .mv 13 (.v 12)),
        (some (13, false), .fadr 14 0 1 (.v 1)),
        (some (13, false), .load 15 false 1 (.v 14) none),
        (some (13, false), .call (some 16) 796 false [((.v 15), false), ((.c (.fn 233 [])), false)]),
        (none, .pick 17 (.v 13) (.c (.bool true)) (.v 16))])
      (.cond (.v 17)
       (.seq
        (.region [] [3, 1] [2] false [
          (none, .asg 2 (.c (.bool false)) .copy)])
        (.ret [2]))
       (.skip [1, 3])))
     (.seq
      (.region [(24, 1, true), (23, 1, false), (19, 1, true), (18, 1, false)] [3, 1] [2] false [
        (none, .fadr 18 1 1 (.v 1)),
        (none, .load 19 false 1 (.v 18) none),
        (none, .len 20 false (.v 19)),
        (none, .bin 21 .leq (.v 20) (.c (.int .i64 8))),
        (none, .mv 22 (.v 21)),
        (some (22, true), .fadr 23 1 1 (.v 1)),
        (some (22, true), .load 24 false 1 (.v 23) none),
        (some (22, true), .mkfn 25 234 [3, 1]),
        (some (22, true), .call (some 26) 798 false [((.v 24), false), ((.v 25), false)]),
        (some (22, true), .un 27 .not (.v 26)),
        (none, .pick 28 (.v 22) (.v 27) (.c (.bool false))),
        (none, .asg 2 (.v 28) .copy)])
      (.ret [2])))))⟩
def F142 : PFunc :=
 ⟨[false, false], [.tmp 4, .tmp 5],
  (.seq
   (.region [] [] [1, 2] false [
     (none, .box 2 (.v 0) .move),
     (none, .asg 4 (.c (.bool false)) .copy),
     (none, .asg 5 (.c (.int .i64 0)) .copy)])
   (.seq
    (.block 0
     (.seq
      (.region [] [] [1, 2, 6] false [
        (none, .load 7 true 2 (.v 2) (some .freeze)),
        (none, .call (some 8) 232 false [((.v 7), false)]),
        (none, .un 9 .not (.v 8)),
        (none, .asg 6 (.v 9) .copy)])
      (.cond (.v 6)
       (.seq
        (.region [] [] [4, 5] false [
          (none, .asg 4 (.c (.bool false)) .copy),
          (none, .asg 5 (.c (.int .i64 1)) .copy)])
        (.ret [4, 5]))
       (.seq
        (.region [(12, 1, false)] [] [1, 2, 10] false [
          (none, .load 11 true 2 (.v 2) (some .freeze)),
          (none, .mv 12 (.v 1)),
          (none, .call (some 13) 24 false [((.v 11), false), ((.v 12), false)]),
          (none, .un 14 .not (.v 13)),
          (none, .asg 10 (.v 14) .copy)])
        (.cond (.v 10)
         (.seq
          (.region [] [] [4, 5] false [
            (none, .asg 4 (.c (.bool false)) .copy),
            (none, .asg 5 (.c (.int .i64 2)) .copy)])
          (.ret [4, 5]))
         (.skip [1, 2]))))))
    (.seq
     (.region [(16, 1, false)] [] [4, 5] false [
       (none, .load 15 true 2 (.v 2) (some .move)),
       (none, .mv 16 (.v 1)),
       (none, .call (some 17) 21 false [((.v 15), false), ((.v 16), false)]),
       (none, .asg 4 (.v 17) .copy),
       (none, .asg 5 (.c (.int .i64 0)) .copy)])
     (.ret [4, 5]))))⟩
def F23 : PFunc :=
 ⟨[false, false, false], [.tmp 6, .tmp 7],
  (.seq
   (.region [] [] [1, 2, 3] false [
     (none, .box 3 (.v 0) .move),
     (none, .asg 6 (.c (.sl true 1 [])) .copy),
     (none, .asg 7 (.c (.bool false)) .copy)])
   (.seq
    (.region [(10, 1, false)] [] [2, 3, 8, 9] false [
      (none, .mv 10 (.v 1)),
      (none, .call (some 11) 784 false [((.v 10), false)]),
      (none, .mv 12 (.v 2)),
      (none, .bin 13 .quo (.v 12) (.c (.int .i64 2))),
      (none, .asg 8 (.v 11) .move),
      (none, .asg 9 (.v 13) .copy)])
    (.seq
     (.seq
      (.region [] [] [3, 8, 9, 16] false [
        (none, .mv 14 (.v 2)),
        (none, .bin 15 .rem (.v 14) (.c (.int .i64 2))),
        (none, .bin 16 .eql (.v 15) (.c (.int .i64 0)))])
      (.cond (.v 16)
       (.region [(22, 8, false), (19, 8, false), (17, 8, false)] [] [3, 8] false [
         (none, .mv 17 (.v 8)),
         (none, .mv 18 (.v 9)),
         (none, .iadr 19 1 (.v 17) (.v 18)),
         (none, .load 20 false 1 (.v 19) none),
         (none, .bin 21 .add (.v 20) (.c (.int .i64 1))),
         (none, .iadr 22 1 (.v 17) (.v 18)),
         (none, .store 1 (.v 22) (.v 21) .copy)])
       (.region [(28, 8, false), (25, 8, false), (23, 8, false)] [] [3, 8] false [
         (none, .mv 23 (.v 8)),
         (none, .mv 24 (.v 9)),
         (none, .iadr 25 1 (.v 23) (.v 24)),
         (none, .load 26 false 1 (.v 25) none),
         (none, .bin 27 .sub (.v 26) (.c (.int .i64 1))),
         (none, .iadr 28 1 (.v 23) (.v 24)),
         (none, .store 1 (.v 28) (.v 27) .copy)])))
     (.seq
      (.region [(35, 8, false), (31, 8, false), (29, 8, false)] [] [6, 7] false [
        (none, .mv 29 (.v 8)),
        (none, .load 30 true 2 (.v 3) (some .freeze)),
        (none, .mv 31 (.v 8)),
        (none, .call (some 32) 24 false [((.v 30), false), ((.v 31), false)]),
        (none, .mv 33 (.v 32)),
        (some (33, true), .load 34 true 2 (.v 3) (some .move)),
        (some (33, true), .mv 35 (.v 8)),
        (some (33, true), .call (some 36) 21 false [((.v 34), false), ((.v 35), false)]),
        (none, .pick 37 (.v 33) (.v 36) (.c (.bool false))),
        (none, .asg 6 (.v 29) .move),
        (none, .asg 7 (.v 37) .copy)])
      (.ret [6, 7])))))⟩
def F310 : PFunc :=
 ⟨[false, false], [.tmp 3],
  (.seq
   (.region [] [] [0, 1] false [
     (none, .asg 3 (.c (.bool false)) .copy)])
   (.seq
    (.region [(5, 0, false)] [] [3] false [
      (none, .load 4 true 2 (.v 1) (some .move)),
      (none, .mv 5 (.v 0)),
      (none, .call (some 6) 24 false [((.v 4), false), ((.v 5), false)]),
      (none, .un 7 .not (.v 6)),
      (none, .asg 3 (.v 7) .copy)])
    (.ret [3])))⟩
def F311 : PFunc :=
 ⟨[false, false], [.tmp 3],
  (.seq
   (.region [] [] [0, 1] false [
     (none, .asg 3 (.c (.bool false)) .copy)])
   (.seq
    (.region [(5, 0, false)] [] [3] false [
      (none, .load 4 true 2 (.v 1) (some .move)),
      (none, .mv 5 (.v 0)),
      (none, .call (some 6) 21 false [((.v 4), false), ((.v 5), false)]),
      (none, .un 7 .not (.v 6)),
      (none, .asg 3 (.v 7) .copy)])
    (.ret [3])))⟩
def F817 : PFunc :=
 ⟨[false, false], [.tmp 4],
  (.seq
   (.region [] [] [0, 1] false [
     (none, .asg 4 (.c (.int .i64 0)) .copy)])
   (.seq
    (.seq
     (.region [(6, 0, false)] [] [0, 1, 7, 8] false [
       (none, .mv 6 (.v 0)),
       (none, .len 7 false (.v 6)),
       (none, .mv 8 (.c (.int .i64 0)))])
     (.block 0
      (.loop
       (.seq
        (.region [] [] [0, 1, 7, 8, 9] false [
          (none, .bin 9 .lss (.v 8) (.v 7))])
        (.seq
         (.cond (.v 9)
          (.skip [0, 1, 7, 8])
          (.exit 0 []))
         (.seq
          (.block 1
           (.seq
            (.region [] [] [0, 1, 5, 7, 8] false [
              (none, .mv 10 (.v 8)),
              (none, .asg 5 (.v 10) .copy)])
            (.seq
             (.region [(15, 0, true), (14, 0, false), (12, 0, false), (11, 1, false)] [] [0, 1, 5, 7, 8, 16] false [
               (none, .mv 11 (.v 1)),
               (none, .mv 12 (.v 0)),
               (none, .mv 13 (.v 5)),
               (none, .iadr 14 1 (.v 12) (.v 13)),
               (none, .load 15 false 1 (.v 14) none),
               (none, .callv (some 16) (.v 11) [(.v 15)])])
             (.cond (.v 16)
              (.seq
               (.region [] [] [4] false [
                 (none, .mv 17 (.v 5)),
                 (none, .asg 4 (.v 17) .copy)])
               (.ret [4]))
              (.skip [0, 1, 7, 8])))))
          (.region [] [] [0, 1, 7, 8] false [
            (none, .bin 18 .add (.v 8) (.c (.int .i64 1))),
            (none, .mv 8 (.v 18))])))))))
    (.seq
     (.region [] [] [4] false [
       (none, .asg 4 (.c (.int .i64 (-1))) .copy)])
     (.ret [4]))))⟩
def F795 : PFunc :=
 ⟨[false, false], [.tmp 4],
  (.seq
   (.region [] [] [0, 1] false [
     (none, .asg 4 (.c (.bool false)) .copy)])
   (.seq
    (.region [(6, 1, false), (5, 0, false)] [] [4] false [
      (none, .mv 5 (.v 0)),
      (none, .mv 6 (.v 1)),
      (none, .call (some 7) 817 false [((.v 5), false), ((.v 6), false)]),
      (none, .bin 8 .geq (.v 7) (.c (.int .i64 0))),
      (none, .asg 4 (.v 8) .copy)])
    (.ret [4])))⟩
def F309 : PFunc :=
 ⟨[false, false, false], [.tmp 6],
  (.seq
   (.region [] [] [1, 2, 3] false [
     (none, .box 3 (.v 0) .move),
     (none, .asg 6 (.c (.int .i64 0)) .copy)])
   (.seq
    (.block 0
     (.seq
      (.region [] [3, 3] [1, 2, 3, 7] false [
        (none, .load 8 true 2 (.v 3) (some .freeze)),
        (none, .call (some 9) 232 false [((.v 8), false)]),
        (none, .un 10 .not (.v 9)),
        (none, .asg 7 (.v 10) .copy)])
      (.cond (.v 7)
       (.seq
        (.region [] [3, 3] [6] false [
          (none, .asg 6 (.c (.int .i64 1)) .copy)])
        (.ret [6]))
       (.seq
        (.region [(18, 3, true), (17, 3, false), (12, 2, false)] [3, 3] [2, 3, 11] false [
          (none, .mv 12 (.v 2)),
          (none, .mkfn 13 310 [3]),
          (none, .call (some 14) 795 false [((.v 12), false), ((.v 13), false)]),
          (none, .mv 15 (.v 14)),
          (some (15, false), .mv 16 (.v 1)),
          (some (15, false), .fadr 17 0 1 (.v 3)),
          (some (15, false), .load 18 false 1 (.v 17) none),
          (some (15, false), .len 19 false (.v 18)),
          (some (15, false), .bin 20 .mul (.c (.int .i64 2)) (.v 19)),
          (some (15, false), .bin 21 .sub (.v 20) (.c (.int .i64 1))),
          (some (15, false), .call (some 22) 326 false [((.v 16), false), ((.c (.int .i64 0)), false), ((.v 21), false)]),
          (some (15, false), .un 23 .not (.v 22)),
          (none, .pick 24 (.v 15) (.c (.bool true)) (.v 23)),
          (none, .asg 11 (.v 24) .copy)])
        (.cond (.v 11)
         (.seq
          (.region [] [3, 3] [6] false [
            (none, .asg 6 (.c (.int .i64 2)) .copy)])
          (.ret [6]))
         (.seq
          (.region [(26, 2, false)] [3, 3] [25] false [
            (none, .mv 26 (.v 2)),
            (none, .mkfn 27 311 [3]),
            (none, .call (some 28) 795 false [((.v 26), false), ((.v 27), false)]),
            (none, .asg 25 (.v 28) .copy)])
          (.cond (.v 25)
           (.seq
            (.region [] [3, 3] [6] false [
              (none, .asg 6 (.c (.int .i64 9)) .copy)])
            (.ret [6]))
           (.skip []))))))))
    (.seq
     (.region [] [3, 3] [6] false [
       (none, .asg 6 (.c (.int .i64 0)) .copy)])
     (.ret [6]))))⟩
def F148 : PFunc :=
 ⟨[false, false, false], [.tmp 6, .tmp 7],
  (.seq
   (.region [] [] [1, 2, 3] false [
     (none, .box 3 (.v 0) .move),
     (none, .asg 6 (.c (.sl true 1 [])) .copy),
     (none, .asg 7 (.c (.int .i64 0)) .copy)])
   (.seq
    (.seq
     (.region [(13, 1, false)] [] [1, 2, 3, 8] false [
       (none, .load 11 true 2 (.v 3) (some .freeze)),
       (none, .mv 12 (.v 2)),
       (none, .mv 13 (.v 1)),
       (none, .mksl 14 1 (.sl false 1 []) 1 [(0, (.v 13), .freeze)]),
       (none, .call (some 15) 309 false [((.v 11), false), ((.v 12), false), ((.v 14), false)]),
       (none, .asg 8 (.v 15) .copy)])
     (.seq
      (.region [] [] [1, 2, 3, 8, 17] false [
        (none, .mv 16 (.v 8)),
        (none, .bin 17 .neq (.v 16) (.c (.int .i64 0)))])
      (.cond (.v 17)
       (.seq
        (.region [] [] [6, 7] false [
          (none, .mv 18 (.v 8)),
          (none, .asg 6 (.c (.sl true 1 [])) .copy),
          (none, .asg 7 (.v 18) .copy)])
        (.ret [6, 7]))
       (.skip [1, 2, 3]))))
    (.seq
     (.region [(21, 1, false)] [] [9, 10] false [
       (none, .load 20 true 2 (.v 3) (some .move)),
       (none, .mv 21 (.v 1)),
       (none, .mv 22 (.v 2)),
       (none, .call (some 23) 23 false [((.v 20), false), ((.v 21), false), ((.v 22), false)]),
       (none, .asg 19 (.v 23) .move),
       (none, .ext 24 (.v 19) 0),
       (none, .extp 25 (.v 19) 1),
       (none, .asg 9 (.v 24) .move),
       (none, .asg 10 (.v 25) .copy)])
     (.seq
      (.seq
       (.region [] [] [9, 27] false [
         (none, .mv 26 (.v 10)),
         (none, .un 27 .not (.v 26))])
       (.cond (.v 27)
        (.seq
         (.region [] [] [6, 7] false [
           (none, .asg 6 (.c (.sl true 1 [])) .copy),
           (none, .asg 7 (.c (.int .i64 6)) .copy)])
         (.ret [6, 7]))
        (.skip [9])))
      (.seq
       (.region [(28, 9, false)] [] [6, 7] false [
         (none, .mv 28 (.v 9)),
         (none, .asg 6 (.v 28) .move),
         (none, .asg 7 (.c (.int .i64 0)) .copy)])
       (.ret [6, 7]))))))⟩
def F150 : PFunc :=
 ⟨[false, false], [.tmp 4, .tmp 5],
  (.seq
   (.region [] [] [1, 2] false [
     (none, .box 2 (.v 0) .move),
     (none, .asg 4 (.c (.sl true 1 [])) .copy),
     (none, .asg 5 (.c (.int .i64 0)) .copy)])
   (.seq
    (.seq
     (.region [(12, 1, false)] [] [1, 2, 6] false [
       (none, .load 11 true 2 (.v 2) (some .freeze)),
       (none, .mv 12 (.v 1)),
       (none, .mksl 13 1 (.sl false 1 []) 1 [(0, (.v 12), .freeze)]),
       (none, .call (some 14) 309 false [((.v 11), false), ((.c (.int .i64 0)), false), ((.v 13), false)]),
       (none, .asg 6 (.v 14) .copy)])
     (.seq
      (.region [] [] [1, 2, 6, 16] false [
        (none, .mv 15 (.v 6)),
        (none, .bin 16 .neq (.v 15) (.c (.int .i64 0)))])
      (.cond (.v 16)
       (.seq
        (.region [] [] [4, 5] false [
          (none, .mv 17 (.v 6)),
          (none, .asg 4 (.c (.sl true 1 [])) .copy),
          (none, .asg 5 (.v 17) .copy)])
        (.ret [4, 5]))
       (.skip [1, 2]))))
    (.seq
     (.region [] [] [1, 2, 7] false [
       (none, .mksl 18 1 (.int .i64 0) 0 []),
       (none, .asg 7 (.v 18) .move)])
     (.seq
      (.seq
       (.region [(20, 2, true), (19, 2, false)] [] [1, 2, 7, 22, 23] false [
         (none, .fadr 19 0 1 (.v 2)),
         (none, .load 20 false 1 (.v 19) none),
         (none, .len 21 false (.v 20)),
         (none, .bin 22 .mul (.c (.int .i64 2)) (.v 21)),
         (none, .mv 23 (.c (.int .i64 0)))])
       (.block 0
        (.loop
         (.seq
          (.region [] [] [1, 2, 7, 22, 23, 24] false [
            (none, .bin 24 .lss (.v 23) (.v 22))])
          (.seq
           (.cond (.v 24)
            (.skip [1, 2, 7, 22, 23])
            (.exit 0 [7]))
           (.seq
            (.block 1
             (.seq
              (.region [] [] [1, 2, 7, 8, 22, 23] false [
                (none, .mv 25 (.v 23)),
                (none, .asg 8 (.v 25) .copy)])
              (.seq
               (.region [(28, 1, false)] [] [1, 2, 7, 8, 10, 22, 23] false [
                 (none, .load 27 true 2 (.v 2) (some .freeze)),
                 (none, .mv 28 (.v 1)),
                 (none, .mv 29 (.v 8)),
                 (none, .call (some 30) 23 false [((.v 27), false), ((.v 28), false), ((.v 29), false)]),
                 (none, .asg 26 (.v 30) .move),
                 (none, .ext 31 (.v 26) 0),
                 (none, .extp 32 (.v 26) 1),
                 (none, .asg 9 (.v 31) .move),
                 (none, .asg 10 (.v 32) .copy)])
               (.seq
                (.region [] [] [1, 2, 7, 8, 22, 23, 33] false [
                  (none, .mv 33 (.v 10))])
                (.cond (.v 33)
                 (.region [(34, 7, false)] [] [1, 2, 7, 22, 23] false [
                   (none, .mv 34 (.v 7)),
                   (none, .mv 35 (.v 8)),
                   (none, .mksl 36 1 (.int .i64 0) 1 [(0, (.v 35), .copy)]),
                   (none, .app 37 1 (.v 34) (.v 36) .move),
                   (none, .asg 7 (.v 37) .move)])
                 (.skip [1, 2, 7, 22, 23]))))))
            (.region [] [] [1, 2, 7, 22, 23] false [
              (none, .bin 38 .add (.v 23) (.c (.int .i64 1))),
              (none, .mv 23 (.v 38))])))))))
      (.seq
       (.region [(39, 7, false)] [] [4, 5] false [
         (none, .mv 39 (.v 7)),
         (none, .asg 4 (.v 39) .move),
         (none, .asg 5 (.c (.int .i64 0)) .copy)])
       (.ret [4, 5]))))))⟩
def F25 : PFunc :=
 ⟨[false, false], [.tmp 4],
  (.seq
   (.region [] [] [1, 2] false [
     (none, .box 2 (.v 0) .move),
     (none, .und 4)])
   (.seq
    (.region [(17, 13, false), (14, 1, false)] [] [1, 2, 5] false [
      (none, .mkmap 13),
      (none, .mv 14 (.v 1)),
      (none, .call (some 15) 283 false [((.v 14), false)]),
      (none, .mksl 16 1 (.int .i64 0) 0 []),
      (none, .mapi 4 (.v 13) (.v 15) (.v 16) .freeze),
      (none, .mv 17 (.v 13)),
      (none, .asg 5 (.v 17) .move)])
    (.seq
     (.region [(18, 1, false)] [] [2, 5, 6] false [
       (none, .mv 18 (.v 1)),
       (none, .mksl 19 1 (.sl false 1 []) 1 [(0, (.v 18), .move)]),
       (none, .asg 6 (.v 19) .move)])
     (.seq
      (.seq
       (.region [] [] [2, 5, 6, 7] false [
         (none, .asg 7 (.c (.int .i64 0)) .copy)])
       (.block 0
        (.loop
         (.seq
          (.seq
           (.region [(21, 6, false)] [] [2, 5, 6, 7, 23] false [
             (none, .mv 20 (.v 7)),
             (none, .mv 21 (.v 6)),
             (none, .len 22 false (.v 21)),
             (none, .bin 23 .lss (.v 20) (.v 22))])
           (.cond (.v 23)
            (.skip [2, 5, 6, 7])
            (.exit 0 [5])))
          (.seq
           (.block 1
            (.seq
             (.region [(27, 2, true), (26, 2, false)] [] [2, 5, 6, 7, 29, 30] false [
               (none, .fadr 26 0 1 (.v 2)),
               (none, .load 27 false 1 (.v 26) none),
               (none, .len 28 false (.v 27)),
               (none, .bin 29 .mul (.c (.int .i64 2)) (.v 28)),
               (none, .mv 30 (.c (.int .i64 0)))])
             (.block 2
              (.loop
               (.seq
                (.region [] [] [2, 5, 6, 7, 29, 30, 31] false [
                  (none, .bin 31 .lss (.v 30) (.v 29))])
                (.seq
                 (.cond (.v 31)
                  (.skip [2, 5, 6, 7, 29, 30])
                  (.exit 2 [2, 5, 6, 7]))
                 (.seq
                  (.block 3
                   (.seq
                    (.region [] [] [2, 5, 6, 7, 8, 29, 30] false [
                      (none, .mv 32 (.v 30)),
                      (none, .asg 8 (.v 32) .copy)])
                    (.seq
                     (.region [(38, 6, true), (37, 6, false), (35, 6, false)] [] [2, 5, 6, 7, 8, 9, 10, 29, 30] true [
                       (none, .load 34 true 2 (.v 2) none),
                       (none, .mvr 35 6),
                       (none, .mv 36 (.v 7)),
                       (none, .iadr 37 1 (.v 35) (.v 36)),
                       (none, .load 38 false 1 (.v 37) none),
                       (none, .mv 39 (.v 8)),
                       (none, .call (some 40) 23 false [((.v 34), false), ((.v 38), false), ((.v 39), false)]),
                       (none, .asg 33 (.v 40) .freeze),
                       (none, .extp 41 (.v 33) 0),
                       (none, .extp 42 (.v 33) 1),
                       (none, .asg 9 (.v 41) .copy),
                       (none, .asg 10 (.v 42) .copy)])
                     (.seq
                      (.seq
                       (.region [(45, 9, false), (44, 5, false)] [] [2, 5, 6, 7, 8, 9, 10, 12, 29, 30] false [
                         (none, .mv 44 (.v 5)),
                         (none, .mv 45 (.v 9)),
                         (none, .call (some 46) 283 false [((.v 45), false)]),
                         (none, .mapg 47 true 4 (.sl false 1 []) (.v 44) (.v 46)),
                         (none, .asg 43 (.v 47) .move),
                         (none, .extp 48 (.v 43) 0),
                         (none, .extp 49 (.v 43) 1),
                         (none, .asg 11 (.v 48) .move),
                         (none, .asg 12 (.v 49) .copy)])
                       (.seq
                        (.region [] [] [2, 5, 6, 7, 8, 9, 29, 30, 54] false [
                          (none, .mv 50 (.v 10)),
                          (none, .un 51 .not (.v 50)),
                          (none, .mv 52 (.v 51)),
                          (some (52, false), .mv 53 (.v 12)),
                          (none, .pick 54 (.v 52) (.c (.bool true)) (.v 53))])
                        (.cond (.v 54)
                         (.exit 3 [2, 5, 6, 7, 29, 30])
                         (.skip [2, 5, 6, 7, 8, 9, 29, 30]))))
                      (.seq
                       (.region [(62, 6, true), (61, 6, false), (59, 6, false), (58, 5, false), (56, 9, false), (55, 5, false)] [] [2, 5, 6, 7, 9, 29, 30] true [
                         (none, .mvr 55 5),
                         (none, .mv 56 (.v 9)),
                         (none, .call (some 57) 283 false [((.v 56), false)]),
                         (none, .mvr 58 5),
                         (none, .mvr 59 6),
                         (none, .mv 60 (.v 7)),
                         (none, .iadr 61 1 (.v 59) (.v 60)),
                         (none, .load 62 false 1 (.v 61) none),
                         (none, .call (some 63) 283 false [((.v 62), false)]),
                         (none, .mapg 64 false 4 (.sl false 1 []) (.v 58) (.v 63)),
                         (none, .call (some 65) 784 false [((.v 64), false)]),
                         (none, .mv 66 (.v 8)),
                         (none, .mksl 67 1 (.int .i64 0) 1 [(0, (.v 66), .copy)]),
                         (none, .app 68 1 (.v 65) (.v 67) .move),
                         (none, .mapi 4 (.v 55) (.v 57) (.v 68) .freeze)])
                       (.region [(70, 9, false), (69, 6, false)] [] [2, 5, 6, 7, 29, 30] false [
                         (none, .mv 69 (.v 6)),
                         (none, .mv 70 (.v 9)),
                         (none, .mksl 71 1 (.sl false 1 []) 1 [(0, (.v 70), .move)]),
                         (none, .app 72 1 (.v 69) (.v 71) .move),
                         (none, .asg 6 (.v 72) .move)]))))))
                  (.region [] [] [2, 5, 6, 7, 29, 30] false [
                    (none, .bin 73 .add (.v 30) (.c (.int .i64 1))),
                    (none, .mv 30 (.v 73))]))))))))
           (.region [] [] [2, 5, 6, 7] false [
             (none, .mv 24 (.v 7)),
             (none, .bin 25 .add (.v 24) (.c (.int .i64 1))),
             (none, .asg 7 (.v 25) .copy)]))))))
      (.seq
       (.region [(74, 5, false)] [] [4] false [
         (none, .mv 74 (.v 5)),
         (none, .asg 4 (.v 74) .move)])
       (.ret [4]))))))⟩
def F151 : PFunc :=
 ⟨[false, false, false], [.tmp 6, .tmp 7],
  (.seq
   (.region [] [] [1, 2, 3] false [
     (none, .box 3 (.v 0) .move),
     (none, .asg 6 (.c (.sl true 1 [])) .copy),
     (none, .asg 7 (.c (.int .i64 0)) .copy)])
   (.seq
    (.seq
     (.region [(13, 2, false), (12, 1, false)] [] [1, 2, 3, 8] false [
       (none, .load 11 true 2 (.v 3) (some .freeze)),
       (none, .mv 12 (.v 1)),
       (none, .mv 13 (.v 2)),
       (none, .mksl 14 1 (.sl false 1 []) 2 [(0, (.v 12), .freeze), (1, (.v 13), .freeze)]),
       (none, .call (some 15) 309 false [((.v 11), false), ((.c (.int .i64 0)), false), ((.v 14), false)]),
       (none, .asg 8 (.v 15) .copy)])
     (.seq
      (.region [] [] [1, 2, 3, 8, 17] false [
        (none, .mv 16 (.v 8)),
        (none, .bin 17 .neq (.v 16) (.c (.int .i64 0)))])
      (.cond (.v 17)
       (.seq
        (.region [] [] [6, 7] false [
          (none, .mv 18 (.v 8)),
          (none, .asg 6 (.c (.sl false 1 [])) .copy),
          (none, .asg 7 (.v 18) .copy)])
        (.ret [6, 7]))
       (.skip [1, 2, 3]))))
    (.seq
     (.region [(23, 2, false), (21, 1, false)] [] [9, 10] false [
       (none, .load 20 true 2 (.v 3) (some .move)),
       (none, .mv 21 (.v 1)),
       (none, .call (some 22) 25 true [((.v 20), false), ((.v 21), false)]),
       (none, .mv 23 (.v 2)),
       (none, .call (some 24) 283 false [((.v 23), false)]),
       (none, .mapg 25 true 4 (.sl false 1 []) (.v 22) (.v 24)),
       (none, .asg 19 (.v 25) .move),
       (none, .extp 26 (.v 19) 0),
       (none, .extp 27 (.v 19) 1),
       (none, .asg 9 (.v 26) .move),
       (none, .asg 10 (.v 27) .copy)])
     (.seq
      (.seq
       (.region [] [] [9, 29] false [
         (none, .mv 28 (.v 10)),
         (none, .un 29 .not (.v 28))])
       (.cond (.v 29)
        (.seq
         (.region [] [] [6, 7] false [
           (none, .asg 6 (.c (.sl false 1 [])) .copy),
           (none, .asg 7 (.c (.int .i64 3)) .copy)])
         (.ret [6, 7]))
        (.skip [9])))
      (.seq
       (.region [(30, 9, false)] [] [6, 7] false [
         (none, .mv 30 (.v 9)),
         (none, .asg 6 (.v 30) .move),
         (none, .asg 7 (.c (.int .i64 0)) .copy)])
       (.ret [6, 7]))))))⟩
def F182 : PFunc :=
 ⟨[false, false], [.tmp 3],
  (.seq
   (.region [] [] [0, 1] false [
     (none, .asg 3 (.c (.bool false)) .copy)])
   (.seq
    (.region [(5, 0, false)] [] [3] false [
      (none, .load 4 true 2 (.v 1) (some .move)),
      (none, .mv 5 (.v 0)),
      (none, .call (some 6) 24 false [((.v 4), false), ((.v 5), false)]),
      (none, .un 7 .not (.v 6)),
      (none, .asg 3 (.v 7) .copy)])
    (.ret [3])))⟩
def F181 : PFunc :=
 ⟨[false, false, false], [.tmp 6, .tmp 7],
  (.seq
   (.region [] [] [1, 2, 3] false [
     (none, .box 3 (.v 0) .move),
     (none, .asg 6 (.c (.int .i64 0)) .copy),
     (none, .asg 7 (.c (.int .i64 0)) .copy)])
   (.seq
    (.block 0
     (.seq
      (.region [] [3] [1, 2, 3, 13] false [
        (none, .load 14 true 2 (.v 3) (some .freeze)),
        (none, .call (some 15) 232 false [((.v 14), false)]),
        (none, .un 16 .not (.v 15)),
        (none, .asg 13 (.v 16) .copy)])
      (.cond (.v 13)
       (.seq
        (.region [] [3] [6, 7] false [
          (none, .asg 6 (.c (.int .i64 0)) .copy),
          (none, .asg 7 (.c (.int .i64 1)) .copy)])
        (.ret [6, 7]))
       (.seq
        (.region [(28, 2, false), (23, 2, false), (19, 1, false)] [3] [1, 2, 3, 17] false [
          (none, .load 18 true 2 (.v 3) (some .freeze)),
          (none, .mv 19 (.v 1)),
          (none, .call (some 20) 24 false [((.v 18), false), ((.v 19), false)]),
          (none, .un 21 .not (.v 20)),
          (none, .mv 22 (.v 21)),
          (some (22, false), .mv 23 (.v 2)),
          (some (22, false), .len 24 false (.v 23)),
          (some (22, false), .bin 25 .gtr (.v 24) (.c (.int .i64 6))),
          (none, .pick 26 (.v 22) (.c (.bool true)) (.v 25)),
          (none, .mv 27 (.v 26)),
          (some (27, false), .mv 28 (.v 2)),
          (some (27, false), .mkfn 29 182 [3]),
          (some (27, false), .call (some 30) 795 false [((.v 28), false), ((.v 29), false)]),
          (none, .pick 31 (.v 27) (.c (.bool true)) (.v 30)),
          (none, .asg 17 (.v 31) .copy)])
        (.cond (.v 17)
         (.seq
          (.region [] [3] [6, 7] false [
            (none, .asg 6 (.c (.int .i64 0)) .copy),
            (none, .asg 7 (.c (.int .i64 2)) .copy)])
          (.ret [6, 7]))
         (.seq
          (.region [(34, 1, false)] [3] [1, 2, 3, 32] false [
            (none, .load 33 true 2 (.v 3) (some .freeze)),
            (none, .mv 34 (.v 1)),
            (none, .call (some 35) 21 false [((.v 33), false), ((.v 34), false)]),
            (none, .un 36 .not (.v 35)),
            (none, .asg 32 (.v 36) .copy)])
          (.cond (.v 32)
           (.seq
            (.region [] [3] [6, 7] false [
              (none, .asg 6 (.c (.int .i64 0)) .copy),
              (none, .asg 7 (.c (.int .i64 9)) .copy)])
            (.ret [6, 7]))
           (.skip [1, 2, 3]))))))))
    (.seq
     (.region [] [3] [1, 2, 3, 8] false [
       (none, .asg 8 (.c (.int .i64 0)) .copy)])
     (.seq
      (.seq
       (.region [(37, 2, false)] [3] [1, 2, 3, 8, 37, 38, 39] false [
         (none, .mv 37 (.v 2)),
         (none, .len 38 false (.v 37)),
         (none, .mv 39 (.c (.int .i64 0)))])
       (.block 1
        (.loop
         (.seq
          (.region [(37, 2, false)] [3] [1, 2, 3, 8, 37, 38, 39, 40] false [
            (none, .bin 40 .lss (.v 39) (.v 38))])
          (.seq
           (.cond (.v 40)
            (.skip [1, 2, 3, 8, 37, 38, 39])
            (.exit 1 [8]))
           (.seq
            (.block 2
             (.seq
              (.region [(42, 2, true), (41, 2, false), (37, 2, false)] [3] [1, 2, 3, 8, 10, 37, 38, 39] false [
                (none, .iadr 41 1 (.v 37) (.v 39)),
                (none, .load 42 false 1 (.v 41) none),
                (none, .asg 10 (.v 42) .freeze)])
              (.seq
               (.region [(47, 10, false), (45, 1, false), (37, 2, false)] [3] [2, 3, 8, 10, 11, 12, 37, 38, 39] false [
                 (none, .load 44 true 2 (.v 3) (some .freeze)),
                 (none, .mv 45 (.v 1)),
                 (none, .call (some 46) 25 true [((.v 44), false), ((.v 45), false)]),
                 (none, .mv 47 (.v 10)),
                 (none, .call (some 48) 283 false [((.v 47), false)]),
                 (none, .mapg 49 true 4 (.sl false 1 []) (.v 46) (.v 48)),
                 (none, .asg 43 (.v 49) .move),
                 (none, .extp 50 (.v 43) 0),
                 (none, .extp 51 (.v 43) 1),
                 (none, .asg 11 (.v 50) .move),
                 (none, .asg 12 (.v 51) .copy)])
               (.seq
                (.seq
                 (.region [(37, 2, false)] [3] [2, 3, 8, 10, 11, 37, 38, 39, 53] false [
                   (none, .mv 52 (.v 12)),
                   (none, .un 53 .not (.v 52))])
                 (.cond (.v 53)
                  (.seq
                   (.region [] [3] [6, 7] false [
                     (none, .asg 6 (.c (.int .i64 0)) .copy),
                     (none, .asg 7 (.c (.int .i64 3)) .copy)])
                   (.ret [6, 7]))
                  (.skip [2, 3, 8, 10, 11, 37, 38, 39])))
                (.seq
                 (.region [(55, 11, false), (37, 2, false)] [3] [2, 3, 8, 10, 37, 38, 39] false [
                   (none, .mv 54 (.v 8)),
                   (none, .mv 55 (.v 11)),
                   (none, .len 56 false (.v 55)),
                   (none, .bin 57 .add (.v 54) (.v 56)),
                   (none, .asg 8 (.v 57) .copy)])
                 (.region [(58, 10, false), (37, 2, false)] [3] [1, 2, 3, 8, 37, 38, 39] false [
                   (none, .mv 58 (.v 10)),
                   (none, .asg 1 (.v 58) .move)]))))))
            (.region [(37, 2, false)] [3] [1, 2, 3, 8, 37, 38, 39] false [
              (none, .bin 59 .add (.v 39) (.c (.int .i64 1))),
              (none, .mv 39 (.v 59))])))))))
      (.seq
       (.region [] [3] [6, 7] false [
         (none, .mv 60 (.v 8)),
         (none, .asg 6 (.v 60) .copy),
         (none, .asg 7 (.c (.int .i64 0)) .copy)])
       (.ret [6, 7]))))))⟩
def F384 : PFunc :=
 ⟨[false, false, false], [.tmp 6],
  (.seq
   (.region [] [] [0, 1, 2] false [
     (none, .asg 6 (.c (.int .i64 0)) .copy)])
   (.seq
    (.seq
     (.region [(8, 0, false)] [] [0, 1, 2, 14] false [
       (none, .mv 7 (.v 1)),
       (none, .mv 8 (.v 0)),
       (none, .len 9 false (.v 8)),
       (none, .bin 10 .geq (.v 7) (.v 9)),
       (none, .mv 11 (.v 10)),
       (some (11, false), .mv 12 (.v 2)),
       (some (11, false), .bin 13 .lss (.v 12) (.c (.int .i64 1))),
       (none, .pick 14 (.v 11) (.c (.bool true)) (.v 13))])
     (.cond (.v 14)
      (.seq
       (.region [] [] [6] false [
         (none, .asg 6 (.c (.int .i64 0)) .copy)])
       (.ret [6]))
      (.skip [0, 1, 2])))
    (.seq
     (.region [(17, 0, false), (15, 0, false)] [] [6] false [
       (none, .mv 15 (.v 0)),
       (none, .mv 16 (.v 1)),
       (none, .iadr 17 1 (.v 15) (.v 16)),
       (none, .load 18 false 1 (.v 17) none),
       (none, .conv 19 .i64 (.v 18)),
       (none, .mv 20 (.v 2)),
       (none, .bin 21 .rem (.v 19) (.v 20)),
       (none, .asg 6 (.v 21) .copy)])
     (.ret [6]))))⟩
def F386 : PFunc :=
 ⟨[false, false], [.tmp 4],
  (.seq
   (.region [] [] [0, 1] false [
     (none, .asg 4 (.c (.bool false)) .copy)])
   (.seq
    (.region [(9, 1, false), (5, 0, false)] [] [4] false [
      (none, .mv 5 (.v 0)),
      (none, .len 6 false (.v 5)),
      (none, .bin 7 .gtr (.v 6) (.c (.int .i64 3000))),
      (none, .mv 8 (.v 7)),
      (some (8, false), .mv 9 (.v 1)),
      (some (8, false), .len 10 false (.v 9)),
      (some (8, false), .bin 11 .gtr (.v 10) (.c (.int .i64 3000))),
      (none, .pick 12 (.v 8) (.c (.bool true)) (.v 11)),
      (none, .asg 4 (.v 12) .copy)])
    (.ret [4])))⟩
def F388 : PFunc :=
 ⟨[false, false], [.tmp 4],
  (.seq
   (.region [] [] [0, 1] false [
     (none, .asg 4 (.c (.bool false)) .copy)])
   (.seq
    (.seq
     (.region [] [] [0, 1, 5] false [
       (none, .asg 5 (.c (.int .i64 0)) .copy)])
     (.block 0
      (.loop
       (.seq
        (.seq
         (.region [(7, 0, false)] [] [0, 1, 5, 9] false [
           (none, .mv 6 (.v 5)),
           (none, .mv 7 (.v 0)),
           (none, .len 8 false (.v 7)),
           (none, .bin 9 .lss (.v 6) (.v 8))])
         (.cond (.v 9)
          (.skip [0, 1, 5])
          (.exit 0 [])))
        (.seq
         (.block 1
          (.seq
           (.region [(36, 0, false), (34, 0, false), (32, 0, false), (29, 0, false), (20, 0, false), (18, 0, false), (14, 0, false), (12, 0, false)] [] [0, 1, 5, 40] true [
             (none, .mv 12 (.v 0)),
             (none, .mv 13 (.v 5)),
             (none, .iadr 14 1 (.v 12) (.v 13)),
             (none, .load 15 false 1 (.v 14) none),
             (none, .bin 16 .lss (.v 15) (.c (.int .i64 0))),
             (none, .mv 17 (.v 16)),
             (some (17, false), .mv 18 (.v 0)),
             (some (17, false), .mv 19 (.v 5)),
             (some (17, false), .iadr 20 1 (.v 18) (.v 19)),
             (some (17, false), .load 21 false 1 (.v 20) none),
             (some (17, false), .mv 22 (.v 1)),
             (some (17, false), .bin 23 .geq (.v 21) (.v 22)),
             (none, .pick 24 (.v 17) (.c (.bool true)) (.v 23)),
             (none, .mv 25 (.v 24)),
             (some (25, false), .mv 26 (.v 5)),
             (some (25, false), .bin 27 .gtr (.v 26) (.c (.int .i64 0))),
             (some (25, false), .mv 28 (.v 27)),
             (some (28, true), .mv 29 (.v 0)),
             (some (28, true), .mv 30 (.v 5)),
             (some (28, true), .bin 31 .sub (.v 30) (.c (.int .i64 1))),
             (some (28, true), .iadr 32 1 (.v 29) (.v 31)),
             (some (28, true), .load 33 false 1 (.v 32) none),
             (some (28, true), .mv 34 (.v 0)),
             (some (28, true), .mv 35 (.v 5)),
             (some (28, true), .iadr 36 1 (.v 34) (.v 35)),
             (some (28, true), .load 37 false 1 (.v 36) none),
             (some (28, true), .bin 38 .geq (.v 33) (.v 37)),
             (some (25, false), .pick 39 (.v 28) (.v 38) (.c (.bool false))),
             (none, .pick 40 (.v 25) (.c (.bool true)) (.v 39))])
           (.cond (.v 40)
            (.seq
             (.region [] [] [4] false [
               (none, .asg 4 (.c (.bool false)) .copy)])
             (.ret [4]))
            (.skip [0, 1, 5]))))
         (.region [] [] [0, 1, 5] false [
           (none, .mv 10 (.v 5)),
           (none, .bin 11 .add (.v 10) (.c (.int .i64 1))),
           (none, .asg 5 (.v 11) .copy)]))))))
    (.seq
     (.region [] [] [4] false [
       (none, .asg 4 (.c (.bool true)) .copy)])
     (.ret [4]))))⟩
def F389 : PFunc :=
 ⟨[false, false], [.tmp 4],
  (.seq
   (.region [] [] [0, 1] false [
     (none, .asg 4 (.c (.bool false)) .copy)])
   (.seq
    (.seq
     (.region [(8, 1, false), (6, 0, false)] [] [0, 1, 10] false [
       (none, .mv 6 (.v 0)),
       (none, .len 7 false (.v 6)),
       (none, .mv 8 (.v 1)),
       (none, .len 9 false (.v 8)),
       (none, .bin 10 .neq (.v 7) (.v 9))])
     (.cond (.v 10)
      (.seq
       (.region [] [] [4] false [
         (none, .asg 4 (.c (.bool false)) .copy)])
       (.ret [4]))
      (.skip [0, 1])))
    (.seq
     (.seq
      (.region [] [] [0, 1, 5] false [
        (none, .asg 5 (.c (.int .i64 0)) .copy)])
      (.block 0
       (.loop
        (.seq
         (.seq
          (.region [(12, 0, false)] [] [0, 1, 5, 14] false [
            (none, .mv 11 (.v 5)),
            (none, .mv 12 (.v 0)),
            (none, .len 13 false (.v 12)),
            (none, .bin 14 .lss (.v 11) (.v 13))])
          (.cond (.v 14)
           (.skip [0, 1, 5])
           (.exit 0 [])))
         (.seq
          (.block 1
           (.seq
            (.region [(23, 1, false), (21, 1, false), (19, 0, false), (17, 0, false)] [] [0, 1, 5, 25] true [
              (none, .mv 17 (.v 0)),
              (none, .mv 18 (.v 5)),
              (none, .iadr 19 1 (.v 17) (.v 18)),
              (none, .load 20 false 1 (.v 19) none),
              (none, .mv 21 (.v 1)),
              (none, .mv 22 (.v 5)),
              (none, .iadr 23 1 (.v 21) (.v 22)),
              (none, .load 24 false 1 (.v 23) none),
              (none, .bin 25 .neq (.v 20) (.v 24))])
            (.cond (.v 25)
             (.seq
              (.region [] [] [4] false [
                (none, .asg 4 (.c (.bool false)) .copy)])
              (.ret [4]))
             (.skip [0, 1, 5]))))
          (.region [] [] [0, 1, 5] false [
            (none, .mv 15 (.v 5)),
            (none, .bin 16 .add (.v 15) (.c (.int .i64 1))),
            (none, .asg 5 (.v 16) .copy)]))))))
     (.seq
      (.region [] [] [4] false [
        (none, .asg 4 (.c (.bool true)) .copy)])
      (.ret [4])))))⟩
def F5 : PFunc :=
 ⟨[true], [.tmp 2],
  (.seq
   (.region [] [] [0] false [
     (none, .asg 2 (.c (.int .i64 0)) .copy)])
   (.seq
    (.region [] [] [0, 3] false [
      (none, .asg 3 (.c (.int .i64 0)) .copy)])
    (.seq
     (.seq
      (.region [(11, 0, true), (10, 0, false), (9, 0, false), (8, 0, false), (6, 0, false), (5, 0, false), (4, 0, false)] [] [0, 3, 13] true [
        (none, .mvr 4 0),
        (none, .nchk 5 (.v 4)),
        (none, .fadr 6 1 1 (.v 5)),
        (none, .load 7 false 1 (.v 6) none),
        (none, .mvr 8 0),
        (none, .nchk 9 (.v 8)),
        (none, .fadr 10 0 1 (.v 9)),
        (none, .load 11 false 1 (.v 10) none),
        (none, .len 12 false (.v 11)),
        (none, .bin 13 .lss (.v 7) (.v 12))])
      (.cond (.v 13)
       (.region [(22, 0, true), (20, 0, false), (19, 0, false), (18, 0, false), (17, 0, true), (16, 0, false), (15, 0, false), (14, 0, false)] [] [0, 3] true [
         (none, .mvr 14 0),
         (none, .nchk 15 (.v 14)),
         (none, .fadr 16 0 1 (.v 15)),
         (none, .load 17 false 1 (.v 16) none),
         (none, .mvr 18 0),
         (none, .nchk 19 (.v 18)),
         (none, .fadr 20 1 1 (.v 19)),
         (none, .load 21 false 1 (.v 20) none),
         (none, .iadr 22 1 (.v 17) (.v 21)),
         (none, .load 23 false 1 (.v 22) none),
         (none, .conv 24 .i64 (.v 23)),
         (none, .asg 3 (.v 24) .copy)])
       (.skip [0, 3])))
     (.seq
      (.region [(31, 0, false), (30, 0, false), (27, 0, false), (26, 0, false), (25, 0, false)] [] [0, 3] false [
        (none, .mv 25 (.v 0)),
        (none, .nchk 26 (.v 25)),
        (none, .fadr 27 1 1 (.v 26)),
        (none, .load 28 false 1 (.v 27) none),
        (none, .bin 29 .add (.v 28) (.c (.int .i64 1))),
        (none, .nchk 30 (.v 25)),
        (none, .fadr 31 1 1 (.v 30)),
        (none, .store 1 (.v 31) (.v 29) .copy)])
      (.seq
       (.region [(43, 0, false), (42, 0, false), (35, 0, false), (34, 0, false), (33, 0, false), (32, 0, false)] [] [0, 3] false [
         (none, .mv 32 (.v 0)),
         (none, .mv 33 (.v 0)),
         (none, .nchk 34 (.v 33)),
         (none, .fadr 35 2 1 (.v 34)),
         (none, .load 36 false 1 (.v 35) none),
         (none, .bin 37 .mul (.v 36) (.c (.int .u64 6364136223846793005))),
         (none, .mv 38 (.v 3)),
         (none, .conv 39 .u64 (.v 38)),
         (none, .bin 40 .add (.v 37) (.v 39)),
         (none, .bin 41 .add (.v 40) (.c (.int .u64 1442695040888963407))),
         (none, .nchk 42 (.v 32)),
         (none, .fadr 43 2 1 (.v 42)),
         (none, .store 1 (.v 43) (.v 41) .copy)])
       (.seq
        (.seq
         (.region [(51, 0, true), (50, 0, false), (49, 0, false), (48, 0, false), (46, 0, false), (45, 0, false), (44, 0, false)] [] [0, 3, 53] true [
           (none, .mvr 44 0),
           (none, .nchk 45 (.v 44)),
           (none, .fadr 46 1 1 (.v 45)),
           (none, .load 47 false 1 (.v 46) none),
           (none, .mvr 48 0),
           (none, .nchk 49 (.v 48)),
           (none, .fadr 50 0 1 (.v 49)),
           (none, .load 51 false 1 (.v 50) none),
           (none, .len 52 false (.v 51)),
           (none, .bin 53 .leq (.v 47) (.v 52))])
         (.cond (.v 53)
          (.seq
           (.region [] [] [0, 2] false [
             (none, .mv 54 (.v 3)),
             (none, .asg 2 (.v 54) .copy)])
           (.ret [0, 2]))
          (.skip [0])))
        (.seq
         (.region [(57, 0, false), (56, 0, false), (55, 0, false)] [] [0, 2] false [
           (none, .mv 55 (.v 0)),
           (none, .nchk 56 (.v 55)),
           (none, .fadr 57 2 1 (.v 56)),
           (none, .load 58 false 1 (.v 57) none),
           (none, .bin 59 .shr (.v 58) (.c (.int .u64 40))),
           (none, .bin 60 .and (.v 59) (.c (.int .u64 255))),
           (none, .conv 61 .i64 (.v 60)),
           (none, .asg 2 (.v 61) .copy)])
         (.ret [0, 2]))))))))⟩
def F7 : PFunc :=
 ⟨[true, false], [.tmp 4],
  (.seq
   (.region [] [] [0, 1] false [
     (none, .asg 4 (.c (.int .i64 0)) .copy)])
   (.seq
    (.seq
     (.region [] [] [0, 1, 7] false [
       (none, .mv 6 (.v 1)),
       (none, .bin 7 .leq (.v 6) (.c (.int .i64 1)))])
     (.cond (.v 7)
      (.seq
       (.region [] [] [0, 4] false [
         (none, .asg 4 (.c (.int .i64 0)) .copy)])
       (.ret [0, 4]))
      (.skip [0, 1])))
    (.seq
     (.region [(8, 0, false)] [] [0, 1, 5] false [
       (none, .mv 8 (.v 0)),
       (none, .call (some 9) 5 true [((.v 8), true)]),
       (none, .asg 5 (.v 9) .copy)])
     (.seq
      (.seq
       (.region [] [] [0, 1, 5, 11] false [
         (none, .mv 10 (.v 1)),
         (none, .bin 11 .gtr (.v 10) (.c (.int .i64 200)))])
       (.cond (.v 11)
        (.region [(14, 0, false)] [] [0, 1, 5] false [
          (none, .mv 12 (.v 5)),
          (none, .bin 13 .mul (.v 12) (.c (.int .i64 256))),
          (none, .mv 14 (.v 0)),
          (none, .call (some 15) 5 true [((.v 14), true)]),
          (none, .bin 16 .add (.v 13) (.v 15)),
          (none, .asg 5 (.v 16) .copy)])
        (.skip [0, 1, 5])))
      (.seq
       (.region [] [] [0, 4] false [
         (none, .mv 17 (.v 5)),
         (none, .mv 18 (.v 1)),
         (none, .bin 19 .rem (.v 17) (.v 18)),
         (none, .asg 4 (.v 19) .copy)])
       (.ret [0, 4]))))))⟩
def F603 : PFunc :=
 ⟨[false], [.tmp 2],
  (.seq
   (.region [] [] [0] false [
     (none, .asg 2 (.c .nilp) .copy)])
   (.seq
    (.region [(3, 0, false)] [] [2] false [
      (none, .mv 3 (.v 0)),
      (none, .build 4 [(.sl false 1 []), (.int .i64 0), (.int .u64 0)] [(0, 1, (.v 3), .move)]),
      (none, .box 5 (.v 4) .move),
      (none, .asg 2 (.v 5) .move)])
    (.ret [2])))⟩
def F701 : PFunc :=
 ⟨[true], [.cell 2 true 2],
  (.seq
   (.region [] [] [0, 2] false [
     (none, .new 2 (.agg [(.sl true 1 []), (.sl true 4 [])]))])
   (.seq
    (.region [] [] [0, 2, 3] false [
      (none, .mksl 8 1 (.int .i64 0) 0 []),
      (none, .mksl 9 4 (.agg [(.int .i64 0), (.int .i64 0), (.int .i64 0), (.int .i64 0)]) 0 []),
      (none, .build 10 [(.sl true 1 []), (.sl true 4 [])] [(0, 1, (.v 8), .move), (1, 1, (.v 9), .move)]),
      (none, .new 3 (.agg [(.sl true 1 []), (.sl true 4 [])])),
      (none, .store 2 (.v 3) (.v 10) .move)])
    (.seq
     (.seq
      (.region [(11, 0, false)] [] [0, 2, 3, 4] false [
        (none, .mv 11 (.v 0)),
        (none, .call (some 12) 7 true [((.v 11), true), ((.c (.int .i64 3)), false)]),
        (none, .bin 13 .add (.c (.int .i64 1)) (.v 12)),
        (none, .asg 4 (.v 13) .copy)])
      (.block 0
       (.loop
        (.seq
         (.seq
          (.region [] [] [0, 2, 3, 4, 15] false [
            (none, .mv 14 (.v 4)),
            (none, .bin 15 .gtr (.v 14) (.c (.int .i64 0)))])
          (.cond (.v 15)
           (.skip [0, 2, 3, 4])
           (.exit 0 [0, 2, 3])))
         (.seq
          (.block 1
           (.region [(25, 3, false), (20, 0, false), (19, 3, true), (18, 3, false)] [] [0, 2, 3, 4] true [
             (none, .fadr 18 0 1 (.v 3)),
             (none, .load 19 false 1 (.v 18) none),
             (none, .mvr 20 0),
             (none, .call (some 21) 7 true [((.v 20), true), ((.c (.int .i64 4)), false)]),
             (none, .bin 22 .add (.c (.int .i64 1)) (.v 21)),
             (none, .mksl 23 1 (.int .i64 0) 1 [(0, (.v 22), .copy)]),
             (none, .app 24 1 (.v 19) (.v 23) .move),
             (none, .fadr 25 0 1 (.v 3)),
             (none, .store 1 (.v 25) (.v 24) .move)]))
          (.region [] [] [0, 2, 3, 4] false [
            (none, .mv 16 (.v 4)),
            (none, .bin 17 .sub (.v 16) (.c (.int .i64 1))),
            (none, .asg 4 (.v 17) .copy)]))))))
     (.seq
      (.region [(27, 3, true), (26, 3, false)] [] [0, 2, 3, 5] false [
        (none, .fadr 26 0 1 (.v 3)),
        (none, .load 27 false 1 (.v 26) none),
        (none, .len 28 false (.v 27)),
        (none, .asg 5 (.v 28) .copy)])
      (.seq
       (.seq
        (.region [(29, 0, false)] [] [0, 2, 3, 5, 6] false [
          (none, .mv 29 (.v 0)),
          (none, .call (some 30) 7 true [((.v 29), true), ((.c (.int .i64 6)), false)]),
          (none, .asg 6 (.v 30) .copy)])
        (.block 2
         (.loop
          (.seq
           (.seq
            (.region [] [] [0, 2, 3, 5, 6, 36] false [
              (none, .mv 31 (.v 6)),
              (none, .bin 32 .gtr (.v 31) (.c (.int .i64 0))),
              (none, .mv 33 (.v 32)),
              (some (33, true), .mv 34 (.v 5)),
              (some (33, true), .bin 35 .gtr (.v 34) (.c (.int .i64 1))),
              (none, .pick 36 (.v 33) (.v 35) (.c (.bool false)))])
            (.cond (.v 36)
             (.skip [0, 2, 3, 5, 6])
             (.exit 2 [0, 2, 3])))
           (.seq
            (.block 3
             (.seq
              (.region [(39, 0, false)] [] [0, 2, 3, 5, 6, 7] false [
                (none, .mv 39 (.v 0)),
                (none, .mv 40 (.v 5)),
                (none, .bin 41 .sub (.v 40) (.c (.int .i64 1))),
                (none, .call (some 42) 7 true [((.v 39), true), ((.v 41), false)]),
                (none, .bin 43 .add (.c (.int .i64 1)) (.v 42)),
                (none, .build 44 [(.int .i64 0), (.int .i64 0), (.int .i64 0), (.int .i64 0)] [(2, 1, (.v 43), .copy)]),
                (none, .new 7 (.agg [(.int .i64 0), (.int .i64 0), (.int .i64 0), (.int .i64 0)])),
                (none, .store 4 (.v 7) (.v 44) .copy)])
              (.seq
               (.region [(49, 7, false), (46, 7, false), (45, 0, false)] [] [0, 2, 3, 5, 6, 7] false [
                 (none, .mv 45 (.v 0)),
                 (none, .fadr 46 2 1 (.v 7)),
                 (none, .load 47 false 1 (.v 46) none),
                 (none, .call (some 48) 7 true [((.v 45), true), ((.v 47), false)]),
                 (none, .fadr 49 0 1 (.v 7)),
                 (none, .store 1 (.v 49) (.v 48) .copy)])
               (.seq
                (.region [(58, 7, false), (55, 3, true), (53, 7, false), (52, 3, true), (51, 3, false), (50, 0, false)] [] [0, 2, 3, 5, 6, 7] false [
                  (none, .mv 50 (.v 0)),
                  (none, .fadr 51 0 1 (.v 3)),
                  (none, .load 52 false 1 (.v 51) none),
                  (none, .fadr 53 0 1 (.v 7)),
                  (none, .load 54 false 1 (.v 53) none),
                  (none, .iadr 55 1 (.v 52) (.v 54)),
                  (none, .load 56 false 1 (.v 55) none),
                  (none, .call (some 57) 7 true [((.v 50), true), ((.v 56), false)]),
                  (none, .fadr 58 1 1 (.v 7)),
                  (none, .store 1 (.v 58) (.v 57) .copy)])
                (.seq
                 (.region [(67, 7, false), (64, 3, true), (62, 7, false), (61, 3, true), (60, 3, false), (59, 0, false)] [] [0, 2, 3, 5, 6, 7] false [
                   (none, .mv 59 (.v 0)),
                   (none, .fadr 60 0 1 (.v 3)),
                   (none, .load 61 false 1 (.v 60) none),
                   (none, .fadr 62 2 1 (.v 7)),
                   (none, .load 63 false 1 (.v 62) none),
                   (none, .iadr 64 1 (.v 61) (.v 63)),
                   (none, .load 65 false 1 (.v 64) none),
                   (none, .call (some 66) 7 true [((.v 59), true), ((.v 65), false)]),
                   (none, .fadr 67 3 1 (.v 7)),
                   (none, .store 1 (.v 67) (.v 66) .copy)])
                 (.region [(73, 3, false), (69, 3, true), (68, 3, false)] [] [0, 2, 3, 5, 6] false [
                   (none, .fadr 68 1 1 (.v 3)),
                   (none, .load 69 false 1 (.v 68) none),
                   (none, .load 70 true 4 (.v 7) none),
                   (none, .mksl 71 4 (.agg [(.int .i64 0), (.int .i64 0), (.int .i64 0), (.int .i64 0)]) 1 [(0, (.v 70), .copy)]),
                   (none, .app 72 4 (.v 69) (.v 71) .move),
                   (none, .fadr 73 1 1 (.v 3)),
                   (none, .store 1 (.v 73) (.v 72) .move)]))))))
            (.region [] [] [0, 2, 3, 5, 6] false [
              (none, .mv 37 (.v 6)),
              (none, .bin 38 .sub (.v 37) (.c (.int .i64 1))),
              (none, .asg 6 (.v 38) .copy)]))))))
       (.seq
        (.region [] [] [0, 2] false [
          (none, .load 74 true 2 (.v 3) (some .move)),
          (none, .store 2 (.v 2) (.v 74) .move)])
        (.ret [0, 2])))))))⟩
def F702 : PFunc :=
 ⟨[false, false], [.tmp 4],
  (.seq
   (.region [] [] [0, 1] false [
     (none, .asg 4 (.c (.bool false)) .copy)])
   (.seq
    (.seq
     (.region [] [] [0, 1, 5] false [
       (none, .asg 5 (.c (.int .i64 0)) .copy)])
     (.block 0
      (.loop
       (.seq
        (.seq
         (.region [(11, 0, true), (10, 0, false), (9, 0, false), (8, 0, false)] [] [0, 1, 5, 13] false [
           (none, .mv 7 (.v 5)),
           (none, .mv 8 (.v 0)),
           (none, .nchk 9 (.v 8)),
           (none, .fadr 10 1 1 (.v 9)),
           (none, .load 11 false 1 (.v 10) none),
           (none, .len 12 false (.v 11)),
           (none, .bin 13 .lss (.v 7) (.v 12))])
         (.cond (.v 13)
          (.skip [0, 1, 5])
          (.exit 0 [])))
        (.seq
         (.block 1
          (.seq
           (.region [(21, 0, true), (19, 0, true), (18, 0, false), (17, 0, false), (16, 0, false)] [] [0, 1, 5, 6] false [
             (none, .mv 16 (.v 0)),
             (none, .nchk 17 (.v 16)),
             (none, .fadr 18 1 1 (.v 17)),
             (none, .load 19 false 1 (.v 18) none),
             (none, .mv 20 (.v 5)),
             (none, .iadr 21 4 (.v 19) (.v 20)),
             (none, .load 22 true 4 (.v 21) none),
             (none, .new 6 (.agg [(.int .i64 0), (.int .i64 0), (.int .i64 0), (.int .i64 0)])),
             (none, .store 4 (.v 6) (.v 22) .copy)])
           (.seq
            (.region [(37, 6, false), (35, 1, false), (33, 6, false), (32, 1, false), (28, 6, false), (26, 1, false), (24, 6, false), (23, 1, false)] [] [0, 1, 5, 40] true [
              (none, .mv 23 (.v 1)),
              (none, .fadr 24 0 1 (.v 6)),
              (none, .load 25 false 1 (.v 24) none),
              (none, .iadr 26 1 (.v 23) (.v 25)),
              (none, .load 27 false 1 (.v 26) none),
              (none, .fadr 28 1 1 (.v 6)),
              (none, .load 29 false 1 (.v 28) none),
              (none, .bin 30 .eql (.v 27) (.v 29)),
              (none, .mv 31 (.v 30)),
              (some (31, true), .mv 32 (.v 1)),
              (some (31, true), .fadr 33 2 1 (.v 6)),
              (some (31, true), .load 34 false 1 (.v 33) none),
              (some (31, true), .iadr 35 1 (.v 32) (.v 34)),
              (some (31, true), .load 36 false 1 (.v 35) none),
              (some (31, true), .fadr 37 3 1 (.v 6)),
              (some (31, true), .load 38 false 1 (.v 37) none),
              (some (31, true), .bin 39 .eql (.v 36) (.v 38)),
              (none, .pick 40 (.v 31) (.v 39) (.c (.bool false)))])
            (.cond (.v 40)
             (.seq
              (.region [] [] [4] false [
                (none, .asg 4 (.c (.bool false)) .copy)])
              (.ret [4]))
             (.skip [0, 1, 5])))))
         (.region [] [] [0, 1, 5] false [
           (none, .mv 14 (.v 5)),
           (none, .bin 15 .add (.v 14) (.c (.int .i64 1))),
           (none, .asg 5 (.v 15) .copy)]))))))
    (.seq
     (.region [] [] [4] false [
       (none, .asg 4 (.c (.bool true)) .copy)])
     (.ret [4]))))⟩
def F435 : PFunc :=
 ⟨[false], [.cell 2 true 2, .tmp 3],
  (.seq
   (.region [] [] [0, 2] false [
     (none, .new 2 (.agg [(.sl true 1 []), (.sl true 4 [])])),
     (none, .asg 3 (.c (.sl true 1 [])) .copy)])
   (.seq
    (.region [(9, 0, false)] [] [2, 4] false [
      (none, .mv 9 (.v 0)),
      (none, .call (some 10) 603 true [((.v 9), false)]),
      (none, .asg 4 (.v 10) .move)])
    (.seq
     (.region [(11, 4, false)] [] [2, 4, 5] false [
       (none, .mv 11 (.v 4)),
       (none, .call (some 12) 701 true [((.v 11), true)]),
       (none, .new 5 (.agg [(.sl true 1 []), (.sl true 4 [])])),
       (none, .store 2 (.v 5) (.v 12) .move)])
     (.seq
      (.seq
       (.region [] [] [2, 4, 5, 6] false [
         (none, .asg 6 (.c (.int .i64 0)) .copy)])
       (.block 0
        (.loop
         (.seq
          (.seq
           (.region [] [] [2, 4, 5, 6, 14] false [
             (none, .mv 13 (.v 6)),
             (none, .bin 14 .lss (.v 13) (.c (.int .i64 6)))])
           (.cond (.v 14)
            (.skip [2, 4, 5, 6])
            (.exit 0 [2, 5])))
          (.seq
           (.block 1
            (.seq
             (.region [] [] [2, 4, 5, 6, 7] false [
               (none, .mksl 17 1 (.int .i64 0) 0 []),
               (none, .asg 7 (.v 17) .move)])
             (.seq
              (.seq
               (.region [] [] [2, 4, 5, 6, 7, 8] false [
                 (none, .asg 8 (.c (.int .i64 0)) .copy)])
               (.block 2
                (.loop
                 (.seq
                  (.seq
                   (.region [(20, 5, true), (19, 5, false)] [] [2, 4, 5, 6, 7, 8, 22] false [
                     (none, .mv 18 (.v 8)),
                     (none, .fadr 19 0 1 (.v 5)),
                     (none, .load 20 false 1 (.v 19) none),
                     (none, .len 21 false (.v 20)),
                     (none, .bin 22 .lss (.v 18) (.v 21))])
                   (.cond (.v 22)
                    (.skip [2, 4, 5, 6, 7, 8])
                    (.exit 2 [2, 4, 5, 6, 7])))
                  (.seq
                   (.block 3
                    (.region [(30, 5, true), (28, 5, true), (27, 5, false), (26, 4, false), (25, 7, false)] [] [2, 4, 5, 6, 7, 8] false [
                      (none, .mv 25 (.v 7)),
                      (none, .mv 26 (.v 4)),
                      (none, .fadr 27 0 1 (.v 5)),
                      (none, .load 28 false 1 (.v 27) none),
                      (none, .mv 29 (.v 8)),
                      (none, .iadr 30 1 (.v 28) (.v 29)),
                      (none, .load 31 false 1 (.v 30) none),
                      (none, .call (some 32) 7 true [((.v 26), true), ((.v 31), false)]),
                      (none, .mksl 33 1 (.int .i64 0) 1 [(0, (.v 32), .copy)]),
                      (none, .app 34 1 (.v 25) (.v 33) .move),
                      (none, .asg 7 (.v 34) .move)]))
                   (.region [] [] [2, 4, 5, 6, 7, 8] false [
                     (none, .mv 23 (.v 8)),
                     (none, .bin 24 .add (.v 23) (.c (.int .i64 1))),
                     (none, .asg 8 (.v 24) .copy)]))))))
              (.seq
               (.region [(35, 7, false)] [] [2, 4, 5, 6, 7, 36] false [
                 (none, .mv 35 (.v 7)),
                 (none, .call (some 36) 702 false [((.v 5), false), ((.v 35), false)])])
               (.cond (.v 36)
                (.seq
                 (.region [(38, 7, false)] [] [2, 3] false [
                   (none, .load 37 true 2 (.v 5) (some .move)),
                   (none, .mv 38 (.v 7)),
                   (none, .store 2 (.v 2) (.v 37) .move),
                   (none, .asg 3 (.v 38) .move)])
                 (.ret [2, 3]))
                (.skip [2, 4, 5, 6]))))))
           (.region [] [] [2, 4, 5, 6] false [
             (none, .mv 15 (.v 6)),
             (none, .bin 16 .add (.v 15) (.c (.int .i64 1))),
             (none, .asg 6 (.v 16) .copy)]))))))
      (.seq
       (.region [] [] [2, 3] false [
         (none, .load 39 true 2 (.v 5) (some .move)),
         (none, .mksl 40 1 (.int .i64 0) 0 []),
         (none, .store 2 (.v 2) (.v 39) .move),
         (none, .asg 3 (.v 40) .move)])
       (.ret [2, 3]))))))⟩
def F605 : PFunc :=
 ⟨[false, false, false], [.tmp 6],
  (.seq
   (.region [] [] [0, 1, 2] false [
     (none, .asg 6 (.c (.bool false)) .copy)])
   (.seq
    (.region [] [] [6] false [
      (none, .mv 7 (.v 0)),
      (none, .mv 8 (.v 1)),
      (none, .bin 9 .geq (.v 7) (.v 8)),
      (none, .mv 10 (.v 9)),
      (some (10, true), .mv 11 (.v 0)),
      (some (10, true), .mv 12 (.v 2)),
      (some (10, true), .bin 13 .leq (.v 11) (.v 12)),
      (none, .pick 14 (.v 10) (.v 13) (.c (.bool false))),
      (none, .asg 6 (.v 14) .copy)])
    (.ret [6])))⟩
def F705 : PFunc :=
 ⟨[false], [.tmp 2],
  (.seq
   (.region [] [] [0] false [
     (none, .asg 2 (.c (.bool false)) .copy)])
   (.seq
    (.region [(10, 0, true), (9, 0, false), (8, 0, false), (7, 0, false)] [] [0, 3] false [
      (none, .mv 7 (.v 0)),
      (none, .nchk 8 (.v 7)),
      (none, .fadr 9 0 1 (.v 8)),
      (none, .load 10 false 1 (.v 9) none),
      (none, .len 11 false (.v 10)),
      (none, .asg 3 (.v 11) .copy)])
    (.seq
     (.seq
      (.region [(19, 0, true), (18, 0, false), (17, 0, false), (16, 0, false)] [] [0, 3, 22] false [
        (none, .mv 12 (.v 3)),
        (none, .call (some 13) 605 false [((.v 12), false), ((.c (.int .i64 1)), false), ((.c (.int .i64 4)), false)]),
        (none, .un 14 .not (.v 13)),
        (none, .mv 15 (.v 14)),
        (some (15, false), .mv 16 (.v 0)),
        (some (15, false), .nchk 17 (.v 16)),
        (some (15, false), .fadr 18 1 1 (.v 17)),
        (some (15, false), .load 19 false 1 (.v 18) none),
        (some (15, false), .len 20 false (.v 19)),
        (some (15, false), .bin 21 .gtr (.v 20) (.c (.int .i64 8))),
        (none, .pick 22 (.v 15) (.c (.bool true)) (.v 21))])
      (.cond (.v 22)
       (.seq
        (.region [] [] [2] false [
          (none, .asg 2 (.c (.bool false)) .copy)])
        (.ret [2]))
       (.skip [0, 3])))
     (.seq
      (.seq
       (.region [] [] [0, 3, 4] false [
         (none, .asg 4 (.c (.int .i64 0)) .copy)])
       (.block 0
        (.loop
         (.seq
          (.seq
           (.region [(27, 0, true), (26, 0, false), (25, 0, false), (24, 0, false)] [] [0, 3, 4, 29] false [
             (none, .mv 23 (.v 4)),
             (none, .mv 24 (.v 0)),
             (none, .nchk 25 (.v 24)),
             (none, .fadr 26 0 1 (.v 25)),
             (none, .load 27 false 1 (.v 26) none),
             (none, .len 28 false (.v 27)),
             (none, .bin 29 .lss (.v 23) (.v 28))])
           (.cond (.v 29)
            (.skip [0, 3, 4])
            (.exit 0 [0, 3])))
          (.seq
           (.block 1
            (.seq
             (.region [(37, 0, true), (35, 0, true), (34, 0, false), (33, 0, false), (32, 0, false)] [] [0, 3, 4, 40] false [
               (none, .mv 32 (.v 0)),
               (none, .nchk 33 (.v 32)),
               (none, .fadr 34 0 1 (.v 33)),
               (none, .load 35 false 1 (.v 34) none),
               (none, .mv 36 (.v 4)),
               (none, .iadr 37 1 (.v 35) (.v 36)),
               (none, .load 38 false 1 (.v 37) none),
               (none, .call (some 39) 605 false [((.v 38), false), ((.c (.int .i64 1)), false), ((.c (.int .i64 4)), false)]),
               (none, .un 40 .not (.v 39))])
             (.cond (.v 40)
              (.seq
               (.region [] [] [2] false [
                 (none, .asg 2 (.c (.bool false)) .copy)])
               (.ret [2]))
              (.skip [0, 3, 4]))))
           (.region [] [] [0, 3, 4] false [
             (none, .mv 30 (.v 4)),
             (none, .bin 31 .add (.v 30) (.c (.int .i64 1))),
             (none, .asg 4 (.v 31) .copy)]))))))
      (.seq
       (.seq
        (.region [] [] [0, 3, 5] false [
          (none, .asg 5 (.c (.int .i64 0)) .copy)])
        (.block 2
         (.loop
          (.seq
           (.seq
            (.region [(45, 0, true), (44, 0, false), (43, 0, false), (42, 0, false)] [] [0, 3, 5, 47] false [
              (none, .mv 41 (.v 5)),
              (none, .mv 42 (.v 0)),
              (none, .nchk 43 (.v 42)),
              (none, .fadr 44 1 1 (.v 43)),
              (none, .load 45 false 1 (.v 44) none),
              (none, .len 46 false (.v 45)),
              (none, .bin 47 .lss (.v 41) (.v 46))])
            (.cond (.v 47)
             (.skip [0, 3, 5])
             (.exit 2 [])))
           (.seq
            (.block 3
             (.seq
              (.region [(55, 0, true), (53, 0, true), (52, 0, false), (51, 0, false), (50, 0, false)] [] [0, 3, 5, 6] false [
                (none, .mv 50 (.v 0)),
                (none, .nchk 51 (.v 50)),
                (none, .fadr 52 1 1 (.v 51)),
                (none, .load 53 false 1 (.v 52) none),
                (none, .mv 54 (.v 5)),
                (none, .iadr 55 4 (.v 53) (.v 54)),
                (none, .load 56 true 4 (.v 55) none),
                (none, .new 6 (.agg [(.int .i64 0), (.int .i64 0), (.int .i64 0), (.int .i64 0)])),
                (none, .store 4 (.v 6) (.v 56) .copy)])
              (.seq
               (.region [(96, 0, true), (94, 6, false), (93, 0, true), (92, 0, false), (91, 0, false), (90, 0, false), (88, 6, false), (81, 0, true), (79, 6, false), (78, 0, true), (77, 0, false), (76, 0, false), (75, 0, false), (73, 6, false), (66, 6, false), (64, 6, false), (57, 6, false)] [] [0, 3, 5, 101] true [
                 (none, .fadr 57 2 1 (.v 6)),
                 (none, .load 58 false 1 (.v 57) none),
                 (none, .mv 59 (.v 3)),
                 (none, .bin 60 .sub (.v 59) (.c (.int .i64 1))),
                 (none, .call (some 61) 605 false [((.v 58), false), ((.c (.int .i64 1)), false), ((.v 60), false)]),
                 (none, .un 62 .not (.v 61)),
                 (none, .mv 63 (.v 62)),
                 (some (63, false), .fadr 64 0 1 (.v 6)),
                 (some (63, false), .load 65 false 1 (.v 64) none),
                 (some (63, false), .fadr 66 2 1 (.v 6)),
                 (some (63, false), .load 67 false 1 (.v 66) none),
                 (some (63, false), .bin 68 .sub (.v 67) (.c (.int .i64 1))),
                 (some (63, false), .call (some 69) 605 false [((.v 65), false), ((.c (.int .i64 0)), false), ((.v 68), false)]),
                 (some (63, false), .un 70 .not (.v 69)),
                 (none, .pick 71 (.v 63) (.c (.bool true)) (.v 70)),
                 (none, .mv 72 (.v 71)),
                 (some (72, false), .fadr 73 1 1 (.v 6)),
                 (some (72, false), .load 74 false 1 (.v 73) none),
                 (some (72, false), .mv 75 (.v 0)),
                 (some (72, false), .nchk 76 (.v 75)),
                 (some (72, false), .fadr 77 0 1 (.v 76)),
                 (some (72, false), .load 78 false 1 (.v 77) none),
                 (some (72, false), .fadr 79 0 1 (.v 6)),
                 (some (72, false), .load 80 false 1 (.v 79) none),
                 (some (72, false), .iadr 81 1 (.v 78) (.v 80)),
                 (some (72, false), .load 82 false 1 (.v 81) none),
                 (some (72, false), .bin 83 .sub (.v 82) (.c (.int .i64 1))),
                 (some (72, false), .call (some 84) 605 false [((.v 74), false), ((.c (.int .i64 0)), false), ((.v 83), false)]),
                 (some (72, false), .un 85 .not (.v 84)),
                 (none, .pick 86 (.v 72) (.c (.bool true)) (.v 85)),
                 (none, .mv 87 (.v 86)),
                 (some (87, false), .fadr 88 3 1 (.v 6)),
                 (some (87, false), .load 89 false 1 (.v 88) none),
                 (some (87, false), .mv 90 (.v 0)),
                 (some (87, false), .nchk 91 (.v 90)),
                 (some (87, false), .fadr 92 0 1 (.v 91)),
                 (some (87, false), .load 93 false 1 (.v 92) none),
                 (some (87, false), .fadr 94 2 1 (.v 6)),
                 (some (87, false), .load 95 false 1 (.v 94) none),
                 (some (87, false), .iadr 96 1 (.v 93) (.v 95)),
                 (some (87, false), .load 97 false 1 (.v 96) none),
                 (some (87, false), .bin 98 .sub (.v 97) (.c (.int .i64 1))),
                 (some (87, false), .call (some 99) 605 false [((.v 89), false), ((.c (.int .i64 0)), false), ((.v 98), false)]),
                 (some (87, false), .un 100 .not (.v 99)),
                 (none, .pick 101 (.v 87) (.c (.bool true)) (.v 100))])
               (.cond (.v 101)
                (.seq
                 (.region [] [] [2] false [
                   (none, .asg 2 (.c (.bool false)) .copy)])
                 (.ret [2]))
                (.skip [0, 3, 5])))))
            (.region [] [] [0, 3, 5] false [
              (none, .mv 48 (.v 5)),
              (none, .bin 49 .add (.v 48) (.c (.int .i64 1))),
              (none, .asg 5 (.v 49) .copy)]))))))
       (.seq
        (.region [] [] [2] false [
          (none, .asg 2 (.c (.bool true)) .copy)])
        (.ret [2])))))))⟩
def F706 : PFunc :=
 ⟨[false, false], [.tmp 4],
  (.seq
   (.region [] [] [0, 1] false [
     (none, .asg 4 (.c (.bool false)) .copy)])
   (.seq
    (.seq
     (.region [(11, 0, true), (10, 0, false), (9, 0, false), (8, 0, false), (6, 1, false)] [] [0, 1, 13] false [
       (none, .mv 6 (.v 1)),
       (none, .len 7 false (.v 6)),
       (none, .mv 8 (.v 0)),
       (none, .nchk 9 (.v 8)),
       (none, .fadr 10 0 1 (.v 9)),
       (none, .load 11 false 1 (.v 10) none),
       (none, .len 12 false (.v 11)),
       (none, .bin 13 .neq (.v 7) (.v 12))])
     (.cond (.v 13)
      (.seq
       (.region [] [] [4] false [
         (none, .asg 4 (.c (.bool false)) .copy)])
       (.ret [4]))
      (.skip [0, 1])))
    (.seq
     (.seq
      (.region [] [] [0, 1, 5] false [
        (none, .asg 5 (.c (.int .i64 0)) .copy)])
      (.block 0
       (.loop
        (.seq
         (.seq
          (.region [(15, 1, false)] [] [0, 1, 5, 17] false [
            (none, .mv 14 (.v 5)),
            (none, .mv 15 (.v 1)),
            (none, .len 16 false (.v 15)),
            (none, .bin 17 .lss (.v 14) (.v 16))])
          (.cond (.v 17)
           (.skip [0, 1, 5])
           (.exit 0 [])))
         (.seq
          (.block 1
           (.seq
            (.region [(29, 0, true), (27, 0, true), (26, 0, false), (25, 0, false), (24, 0, false), (22, 1, false), (20, 1, false)] [] [0, 1, 5, 33] true [
              (none, .mv 20 (.v 1)),
              (none, .mv 21 (.v 5)),
              (none, .iadr 22 1 (.v 20) (.v 21)),
              (none, .load 23 false 1 (.v 22) none),
              (none, .mv 24 (.v 0)),
              (none, .nchk 25 (.v 24)),
              (none, .fadr 26 0 1 (.v 25)),
              (none, .load 27 false 1 (.v 26) none),
              (none, .mv 28 (.v 5)),
              (none, .iadr 29 1 (.v 27) (.v 28)),
              (none, .load 30 false 1 (.v 29) none),
              (none, .bin 31 .sub (.v 30) (.c (.int .i64 1))),
              (none, .call (some 32) 605 false [((.v 23), false), ((.c (.int .i64 0)), false), ((.v 31), false)]),
              (none, .un 33 .not (.v 32))])
            (.cond (.v 33)
             (.seq
              (.region [] [] [4] false [
                (none, .asg 4 (.c (.bool false)) .copy)])
              (.ret [4]))
             (.skip [0, 1, 5]))))
          (.region [] [] [0, 1, 5] false [
            (none, .mv 18 (.v 5)),
            (none, .bin 19 .add (.v 18) (.c (.int .i64 1))),
            (none, .asg 5 (.v 19) .copy)]))))))
     (.seq
      (.region [] [] [4] false [
        (none, .asg 4 (.c (.bool true)) .copy)])
      (.ret [4])))))⟩
def F700 : PFunc :=
 ⟨[false, false], [.tmp 4],
  (.seq
   (.region [] [] [0, 1] false [
     (none, .asg 4 (.c (.int .i64 0)) .copy)])
   (.seq
    (.seq
     (.region [(5, 0, false)] [] [0, 1, 7] false [
       (none, .mv 5 (.v 0)),
       (none, .call (some 6) 705 false [((.v 5), false)]),
       (none, .un 7 .not (.v 6))])
     (.cond (.v 7)
      (.seq
       (.region [] [] [4] false [
         (none, .asg 4 (.c (.int .i64 1)) .copy)])
       (.ret [4]))
      (.skip [0, 1])))
    (.seq
     (.seq
      (.region [(9, 1, false), (8, 0, false)] [] [0, 1, 11] false [
        (none, .mv 8 (.v 0)),
        (none, .mv 9 (.v 1)),
        (none, .call (some 10) 706 false [((.v 8), false), ((.v 9), false)]),
        (none, .un 11 .not (.v 10))])
      (.cond (.v 11)
       (.seq
        (.region [] [] [4] false [
          (none, .asg 4 (.c (.int .i64 2)) .copy)])
        (.ret [4]))
       (.skip [0, 1])))
     (.seq
      (.seq
       (.region [(13, 1, false), (12, 0, false)] [] [15] false [
         (none, .mv 12 (.v 0)),
         (none, .mv 13 (.v 1)),
         (none, .call (some 14) 702 false [((.v 12), false), ((.v 13), false)]),
         (none, .un 15 .not (.v 14))])
       (.cond (.v 15)
        (.seq
         (.region [] [] [4] false [
           (none, .asg 4 (.c (.int .i64 9)) .copy)])
         (.ret [4]))
        (.skip [])))
      (.seq
       (.region [] [] [4] false [
         (none, .asg 4 (.c (.int .i64 0)) .copy)])
       (.ret [4]))))))⟩
def F608 : PFunc :=
 ⟨[false], [.tmp 2],
  (.seq
   (.region [] [] [0] false [
     (none, .asg 2 (.c (.sl true 1 [])) .copy)])
   (.seq
    (.region [(4, 0, false)] [] [2] false [
      (none, .mksl 3 1 (.int .i64 0) 0 []),
      (none, .mv 4 (.v 0)),
      (none, .app 5 1 (.v 3) (.v 4) .move),
      (none, .asg 2 (.v 5) .move)])
    (.ret [2])))⟩
def F703 : PFunc :=
 ⟨[false, false, false], [.tmp 6, .tmp 7],
  (.seq
   (.region [] [] [0, 1, 2] false [
     (none, .asg 6 (.c (.sl true 1 [])) .copy),
     (none, .asg 7 (.c (.bool false)) .copy)])
   (.seq
    (.region [(10, 1, false)] [] [0, 2, 8] false [
      (none, .mv 10 (.v 1)),
      (none, .call (some 11) 608 false [((.v 10), false)]),
      (none, .asg 8 (.v 11) .move)])
    (.seq
     (.region [] [] [0, 2, 8, 9] false [
       (none, .mv 12 (.v 2)),
       (none, .bin 13 .quo (.v 12) (.c (.int .i64 2))),
       (none, .asg 9 (.v 13) .copy)])
     (.seq
      (.seq
       (.region [] [] [0, 8, 9, 16] false [
         (none, .mv 14 (.v 2)),
         (none, .bin 15 .rem (.v 14) (.c (.int .i64 2))),
         (none, .bin 16 .eql (.v 15) (.c (.int .i64 0)))])
       (.cond (.v 16)
        (.region [(22, 8, false), (19, 8, false), (17, 8, false)] [] [0, 8, 9] false [
          (none, .mv 17 (.v 8)),
          (none, .mv 18 (.v 9)),
          (none, .iadr 19 1 (.v 17) (.v 18)),
          (none, .load 20 false 1 (.v 19) none),
          (none, .bin 21 .add (.v 20) (.c (.int .i64 1))),
          (none, .iadr 22 1 (.v 17) (.v 18)),
          (none, .store 1 (.v 22) (.v 21) .copy)])
        (.region [(28, 8, false), (25, 8, false), (23, 8, false)] [] [0, 8, 9] false [
          (none, .mv 23 (.v 8)),
          (none, .mv 24 (.v 9)),
          (none, .iadr 25 1 (.v 23) (.v 24)),
          (none, .load 26 false 1 (.v 25) none),
          (none, .bin 27 .sub (.v 26) (.c (.int .i64 1))),
          (none, .iadr 28 1 (.v 23) (.v 24)),
          (none, .store 1 (.v 28) (.v 27) .copy)])))
      (.seq
       (.seq
        (.region [(45, 8, false), (44, 0, false), (38, 0, true), (36, 0, true), (35, 0, false), (34, 0, false), (33, 0, false), (31, 8, false), (29, 8, false)] [] [8, 48] true [
          (none, .mvr 29 8),
          (none, .mv 30 (.v 9)),
          (none, .iadr 31 1 (.v 29) (.v 30)),
          (none, .load 32 false 1 (.v 31) none),
          (none, .mv 33 (.v 0)),
          (none, .nchk 34 (.v 33)),
          (none, .fadr 35 0 1 (.v 34)),
          (none, .load 36 false 1 (.v 35) none),
          (none, .mv 37 (.v 9)),
          (none, .iadr 38 1 (.v 36) (.v 37)),
          (none, .load 39 false 1 (.v 38) none),
          (none, .bin 40 .sub (.v 39) (.c (.int .i64 1))),
          (none, .call (some 41) 605 false [((.v 32), false), ((.c (.int .i64 0)), false), ((.v 40), false)]),
          (none, .un 42 .not (.v 41)),
          (none, .mv 43 (.v 42)),
          (some (43, false), .mv 44 (.v 0)),
          (some (43, false), .mvr 45 8),
          (some (43, false), .call (some 46) 702 false [((.v 44), false), ((.v 45), false)]),
          (some (43, false), .un 47 .not (.v 46)),
          (none, .pick 48 (.v 43) (.c (.bool true)) (.v 47))])
        (.cond (.v 48)
         (.seq
          (.region [] [] [6, 7] false [
            (none, .asg 6 (.c (.sl true 1 [])) .copy),
            (none, .asg 7 (.c (.bool false)) .copy)])
          (.ret [6, 7]))
         (.skip [8])))
       (.seq
        (.region [(49, 8, false)] [] [6, 7] false [
          (none, .mv 49 (.v 8)),
          (none, .asg 6 (.v 49) .move),
          (none, .asg 7 (.c (.bool true)) .copy)])
        (.ret [6, 7])))))))⟩
def F548 : PFunc :=
 ⟨[false, false, false], [.tmp 6, .tmp 7],
  (.seq
   (.region [] [] [1, 2, 3] false [
     (none, .box 3 (.v 0) .move),
     (none, .asg 6 (.c (.sl true 1 [])) .copy),
     (none, .asg 7 (.c (.int .i64 0)) .copy)])
   (.seq
    (.seq
     (.region [(15, 3, true), (14, 3, false)] [] [1, 2, 3, 21] false [
       (none, .call (some 11) 705 false [((.v 3), false)]),
       (none, .mv 12 (.v 11)),
       (some (12, true), .mv 13 (.v 2)),
       (some (12, true), .fadr 14 0 1 (.v 3)),
       (some (12, true), .load 15 false 1 (.v 14) none),
       (some (12, true), .len 16 false (.v 15)),
       (some (12, true), .bin 17 .mul (.c (.int .i64 2)) (.v 16)),
       (some (12, true), .bin 18 .sub (.v 17) (.c (.int .i64 1))),
       (some (12, true), .call (some 19) 605 false [((.v 13), false), ((.c (.int .i64 0)), false), ((.v 18), false)]),
       (some (12, true), .un 20 .not (.v 19)),
       (none, .pick 21 (.v 12) (.v 20) (.c (.bool false)))])
     (.cond (.v 21)
      (.seq
       (.region [] [] [6, 7] false [
         (none, .asg 6 (.c (.sl true 1 [])) .copy),
         (none, .asg 7 (.c (.int .i64 2)) .copy)])
       (.ret [6, 7]))
      (.skip [1, 2, 3])))
    (.seq
     (.region [(22, 1, false)] [] [1, 2, 3, 8] false [
       (none, .mv 22 (.v 1)),
       (none, .call (some 23) 700 false [((.v 3), false), ((.v 22), false)]),
       (none, .asg 8 (.v 23) .copy)])
     (.seq
      (.seq
       (.region [] [] [1, 2, 3, 8, 25] false [
         (none, .mv 24 (.v 8)),
         (none, .bin 25 .neq (.v 24) (.c (.int .i64 0)))])
       (.cond (.v 25)
        (.seq
         (.region [] [] [6, 7] false [
           (none, .mv 26 (.v 8)),
           (none, .asg 6 (.c (.sl true 1 [])) .copy),
           (none, .asg 7 (.v 26) .copy)])
         (.ret [6, 7]))
        (.skip [1, 2, 3])))
      (.seq
       (.region [(28, 1, false)] [] [9, 10] false [
         (none, .mv 28 (.v 1)),
         (none, .mv 29 (.v 2)),
         (none, .call (some 30) 703 false [((.v 3), false), ((.v 28), false), ((.v 29), false)]),
         (none, .asg 27 (.v 30) .move),
         (none, .ext 31 (.v 27) 0),
         (none, .extp 32 (.v 27) 1),
         (none, .asg 9 (.v 31) .move),
         (none, .asg 10 (.v 32) .copy)])
       (.seq
        (.seq
         (.region [] [] [9, 34] false [
           (none, .mv 33 (.v 10)),
           (none, .un 34 .not (.v 33))])
         (.cond (.v 34)
          (.seq
           (.region [] [] [6, 7] false [
             (none, .asg 6 (.c (.sl true 1 [])) .copy),
             (none, .asg 7 (.c (.int .i64 6)) .copy)])
           (.ret [6, 7]))
          (.skip [9])))
        (.seq
         (.region [(35, 9, false)] [] [6, 7] false [
           (none, .mv 35 (.v 9)),
           (none, .asg 6 (.v 35) .move),
           (none, .asg 7 (.c (.int .i64 0)) .copy)])
         (.ret [6, 7]))))))))⟩
def F704 : PFunc :=
 ⟨[false, false], [.tmp 4],
  (.seq
   (.region [] [] [0, 1] false [
     (none, .asg 4 (.c (.sl true 1 [])) .copy)])
   (.seq
    (.region [] [] [0, 1, 5] false [
      (none, .mksl 9 1 (.int .i64 0) 0 []),
      (none, .asg 5 (.v 9) .move)])
    (.seq
     (.seq
      (.region [] [] [0, 1, 5, 6] false [
        (none, .asg 6 (.c (.int .i64 0)) .copy)])
      (.block 0
       (.loop
        (.seq
         (.seq
          (.region [(11, 1, false)] [] [0, 1, 5, 6, 14] false [
            (none, .mv 10 (.v 6)),
            (none, .mv 11 (.v 1)),
            (none, .len 12 false (.v 11)),
            (none, .bin 13 .mul (.c (.int .i64 2)) (.v 12)),
            (none, .bin 14 .lss (.v 10) (.v 13))])
          (.cond (.v 14)
           (.skip [0, 1, 5, 6])
           (.exit 0 [5])))
         (.seq
          (.block 1
           (.seq
            (.region [(19, 1, false), (18, 0, false)] [] [0, 1, 5, 6, 8] false [
              (none, .mv 18 (.v 0)),
              (none, .mv 19 (.v 1)),
              (none, .mv 20 (.v 6)),
              (none, .call (some 21) 703 false [((.v 18), false), ((.v 19), false), ((.v 20), false)]),
              (none, .asg 17 (.v 21) .move),
              (none, .ext 22 (.v 17) 0),
              (none, .extp 23 (.v 17) 1),
              (none, .asg 7 (.v 22) .move),
              (none, .asg 8 (.v 23) .copy)])
            (.seq
             (.region [] [] [0, 1, 5, 6, 24] false [
               (none, .mv 24 (.v 8))])
             (.cond (.v 24)
              (.region [(25, 5, false)] [] [0, 1, 5, 6] false [
                (none, .mv 25 (.v 5)),
                (none, .mv 26 (.v 6)),
                (none, .mksl 27 1 (.int .i64 0) 1 [(0, (.v 26), .copy)]),
                (none, .app 28 1 (.v 25) (.v 27) .move),
                (none, .asg 5 (.v 28) .move)])
              (.skip [0, 1, 5, 6])))))
          (.region [] [] [0, 1, 5, 6] false [
            (none, .mv 15 (.v 6)),
            (none, .bin 16 .add (.v 15) (.c (.int .i64 1))),
            (none, .asg 6 (.v 16) .copy)]))))))
     (.seq
      (.region [(29, 5, false)] [] [4] false [
        (none, .mv 29 (.v 5)),
        (none, .asg 4 (.v 29) .move)])
      (.ret [4])))))⟩
def F549 : PFunc :=
 ⟨[false, false], [.tmp 4, .tmp 5],
  (.seq
   (.region [] [] [1, 2] false [
     (none, .box 2 (.v 0) .move),
     (none, .asg 4 (.c (.sl true 1 [])) .copy),
     (none, .asg 5 (.c (.int .i64 0)) .copy)])
   (.seq
    (.region [(7, 1, false)] [] [1, 2, 6] false [
      (none, .mv 7 (.v 1)),
      (none, .call (some 8) 700 false [((.v 2), false), ((.v 7), false)]),
      (none, .asg 6 (.v 8) .copy)])
    (.seq
     (.seq
      (.region [] [] [1, 2, 6, 10] false [
        (none, .mv 9 (.v 6)),
        (none, .bin 10 .neq (.v 9) (.c (.int .i64 0)))])
      (.cond (.v 10)
       (.seq
        (.region [] [] [4, 5] false [
          (none, .mv 11 (.v 6)),
          (none, .asg 4 (.c (.sl true 1 [])) .copy),
          (none, .asg 5 (.v 11) .copy)])
        (.ret [4, 5]))
       (.skip [1, 2])))
     (.seq
      (.region [(12, 1, false)] [] [4, 5] false [
        (none, .mv 12 (.v 1)),
        (none, .call (some 13) 704 false [((.v 2), false), ((.v 12), false)]),
        (none, .asg 4 (.v 13) .move),
        (none, .asg 5 (.c (.int .i64 0)) .copy)])
      (.ret [4, 5])))))⟩
def F354 : PFunc :=
 ⟨[false, false], [.tmp 4],
  (.seq
   (.region [] [] [0, 1] false [
     (none, .asg 4 (.c (.bool false)) .copy)])
   (.seq
    (.seq
     (.region [(30, 1, false), (29, 0, false)] [] [0, 1, 31] false [
       (none, .mv 29 (.v 0)),
       (none, .mv 30 (.v 1)),
       (none, .call (some 31) 386 false [((.v 29), false), ((.v 30), false)])])
     (.cond (.v 31)
      (.seq
       (.region [] [] [4] false [
         (none, .asg 4 (.c (.bool true)) .copy)])
       (.ret [4]))
      (.skip [0, 1])))
    (.seq
     (.region [(33, 0, false)] [] [1, 5, 6] false [
       (none, .mv 33 (.v 0)),
       (none, .call (some 34) 435 false [((.v 33), false)]),
       (none, .asg 32 (.v 34) .move),
       (none, .ext 35 (.v 32) 0),
       (none, .ext 36 (.v 32) 1),
       (none, .new 5 (.agg [(.sl false 1 []), (.sl false 4 [])])),
       (none, .store 2 (.v 5) (.v 35) .freeze),
       (none, .asg 6 (.v 36) .move)])
     (.seq
      (.seq
       (.region [(37, 6, false)] [] [1, 5, 6, 39] false [
         (none, .mv 37 (.v 6)),
         (none, .len 38 false (.v 37)),
         (none, .bin 39 .eql (.v 38) (.c (.int .i64 0)))])
       (.cond (.v 39)
        (.seq
         (.region [] [] [4] false [
           (none, .asg 4 (.c (.bool true)) .copy)])
         (.ret [4]))
        (.skip [1, 5, 6])))
      (.seq
       (.region [(41, 6, false)] [] [1, 5, 6, 7] false [
         (none, .mksl 40 1 (.int .i64 0) 0 []),
         (none, .mv 41 (.v 6)),
         (none, .app 42 1 (.v 40) (.v 41) .freeze),
         (none, .asg 7 (.v 42) .move)])
       (.seq
        (.region [] [] [1, 5, 6, 7, 8] false [
          (none, .asg 8 (.c (.int .i64 0)) .copy)])
        (.seq
         (.seq
          (.region [] [] [1, 5, 6, 7, 8, 9] false [
            (none, .asg 9 (.c (.int .i64 0)) .copy)])
          (.block 0
           (.loop
            (.seq
             (.seq
              (.region [] [] [1, 5, 6, 7, 8, 9, 44] false [
                (none, .mv 43 (.v 9)),
                (none, .bin 44 .lss (.v 43) (.c (.int .i64 6)))])
              (.cond (.v 44)
               (.skip [1, 5, 6, 7, 8, 9])
               (.exit 0 [5, 6, 7, 8])))
             (.seq
              (.block 1
               (.seq
                (.region [(49, 7, false)] [] [1, 5, 6, 7, 8, 9, 10, 11] false [
                  (none, .load 48 true 2 (.v 5) (some .freeze)),
                  (none, .mv 49 (.v 7)),
                  (none, .call (some 50) 150 false [((.v 48), false), ((.v 49), false)]),
                  (none, .asg 47 (.v 50) .move),
                  (none, .ext 51 (.v 47) 0),
                  (none, .extp 52 (.v 47) 1),
                  (none, .asg 10 (.v 51) .move),
                  (none, .asg 11 (.v 52) .copy)])
                (.seq
                 (.region [(55, 7, false)] [] [1, 5, 6, 7, 8, 9, 10, 11, 12, 13] false [
                   (none, .load 54 true 2 (.v 5) (some .freeze)),
                   (none, .mv 55 (.v 7)),
                   (none, .call (some 56) 549 false [((.v 54), false), ((.v 55), false)]),
                   (none, .asg 53 (.v 56) .move),
                   (none, .ext 57 (.v 53) 0),
                   (none, .extp 58 (.v 53) 1),
                   (none, .asg 12 (.v 57) .move),
                   (none, .asg 13 (.v 58) .copy)])
                 (.seq
                  (.seq
                   (.region [(75, 12, false), (74, 10, false), (67, 6, false), (66, 10, false)] [] [1, 5, 6, 7, 8, 9, 10, 78] false [
                     (none, .mv 59 (.v 11)),
                     (none, .bin 60 .neq (.v 59) (.c (.int .i64 0))),
                     (none, .mv 61 (.v 60)),
                     (some (61, false), .mv 62 (.v 13)),
                     (some (61, false), .bin 63 .neq (.v 62) (.c (.int .i64 0))),
                     (none, .pick 64 (.v 61) (.c (.bool true)) (.v 63)),
                     (none, .mv 65 (.v 64)),
                     (some (65, false), .mv 66 (.v 10)),
                     (some (65, false), .mv 67 (.v 6)),
                     (some (65, false), .len 68 false (.v 67)),
                     (some (65, false), .bin 69 .mul (.c (.int .i64 2)) (.v 68)),
                     (some (65, false), .call (some 70) 388 false [((.v 66), false), ((.v 69), false)]),
                     (some (65, false), .un 71 .not (.v 70)),
                     (none, .pick 72 (.v 65) (.c (.bool true)) (.v 71)),
                     (none, .mv 73 (.v 72)),
                     (some (73, false), .mv 74 (.v 10)),
                     (some (73, false), .mv 75 (.v 12)),
                     (some (73, false), .call (some 76) 389 false [((.v 74), false), ((.v 75), false)]),
                     (some (73, false), .un 77 .not (.v 76)),
                     (none, .pick 78 (.v 73) (.c (.bool true)) (.v 77))])
                   (.cond (.v 78)
                    (.seq
                     (.region [] [] [4] false [
                       (none, .asg 4 (.c (.bool false)) .copy)])
                     (.ret [4]))
                    (.skip [1, 5, 6, 7, 8, 9, 10])))
                  (.seq
                   (.seq
                    (.region [(79, 10, false)] [] [1, 5, 6, 7, 8, 9, 10, 81] false [
                      (none, .mv 79 (.v 10)),
                      (none, .len 80 false (.v 79)),
                      (none, .bin 81 .eql (.v 80) (.c (.int .i64 0)))])
                    (.cond (.v 81)
                     (.exit 0 [5, 6, 7, 8])
                     (.skip [1, 5, 6, 7, 8, 9, 10])))
                   (.seq
                    (.region [(88, 10, false), (85, 10, false), (83, 1, false), (82, 10, false)] [] [1, 5, 6, 7, 8, 9, 14] false [
                      (none, .mv 82 (.v 10)),
                      (none, .mv 83 (.v 1)),
                      (none, .mv 84 (.v 9)),
                      (none, .mv 85 (.v 10)),
                      (none, .len 86 false (.v 85)),
                      (none, .call (some 87) 384 false [((.v 83), false), ((.v 84), false), ((.v 86), false)]),
                      (none, .iadr 88 1 (.v 82) (.v 87)),
                      (none, .load 89 false 1 (.v 88) none),
                      (none, .asg 14 (.v 89) .copy)])
                    (.seq
                     (.region [(92, 7, false)] [] [1, 5, 6, 7, 8, 9, 14, 15, 16] false [
                       (none, .load 91 true 2 (.v 5) (some .freeze)),
                       (none, .mv 92 (.v 7)),
                       (none, .mv 93 (.v 14)),
                       (none, .call (some 94) 148 false [((.v 91), false), ((.v 92), false), ((.v 93), false)]),
                       (none, .asg 90 (.v 94) .move),
                       (none, .ext 95 (.v 90) 0),
                       (none, .extp 96 (.v 90) 1),
                       (none, .asg 15 (.v 95) .move),
                       (none, .asg 16 (.v 96) .copy)])
                     (.seq
                      (.region [(99, 15, false)] [] [1, 5, 6, 7, 8, 9, 14, 15, 16, 17, 18] false [
                        (none, .load 98 true 2 (.v 5) (some .freeze)),
                        (none, .mv 99 (.v 15)),
                        (none, .call (some 100) 142 false [((.v 98), false), ((.v 99), false)]),
                        (none, .asg 97 (.v 100) .copy),
                        (none, .extp 101 (.v 97) 0),
                        (none, .extp 102 (.v 97) 1),
                        (none, .asg 17 (.v 101) .copy),
                        (none, .asg 18 (.v 102) .copy)])
                      (.seq
                       (.region [(105, 15, false)] [] [1, 5, 6, 7, 8, 9, 15, 16, 17, 18, 19, 20] false [
                         (none, .load 104 true 2 (.v 5) (some .freeze)),
                         (none, .mv 105 (.v 15)),
                         (none, .mv 106 (.v 14)),
                         (none, .bin 107 .add (.v 106) (.c (.int .i64 1))),
                         (none, .mv 108 (.v 14)),
                         (none, .bin 109 .rem (.v 108) (.c (.int .i64 2))),
                         (none, .bin 110 .mul (.v 109) (.c (.int .i64 2))),
                         (none, .bin 111 .sub (.v 107) (.v 110)),
                         (none, .call (some 112) 148 false [((.v 104), false), ((.v 105), false), ((.v 111), false)]),
                         (none, .asg 103 (.v 112) .move),
                         (none, .ext 113 (.v 103) 0),
                         (none, .extp 114 (.v 103) 1),
                         (none, .asg 19 (.v 113) .move),
                         (none, .asg 20 (.v 114) .copy)])
                       (.seq
                        (.seq
                         (.region [(138, 7, false), (137, 19, false), (120, 6, false), (118, 15, false)] [] [1, 5, 6, 8, 9, 15, 141] false [
                           (none, .mv 115 (.v 16)),
                           (none, .bin 116 .neq (.v 115) (.c (.int .i64 0))),
                           (none, .mv 117 (.v 116)),
                           (some (117, false), .mv 118 (.v 15)),
                           (some (117, false), .len 119 false (.v 118)),
                           (some (117, false), .mv 120 (.v 6)),
                           (some (117, false), .len 121 false (.v 120)),
                           (some (117, false), .bin 122 .neq (.v 119) (.v 121)),
                           (none, .pick 123 (.v 117) (.c (.bool true)) (.v 122)),
                           (none, .mv 124 (.v 123)),
                           (some (124, false), .mv 125 (.v 18)),
                           (some (124, false), .bin 126 .neq (.v 125) (.c (.int .i64 0))),
                           (none, .pick 127 (.v 124) (.c (.bool true)) (.v 126)),
                           (none, .mv 128 (.v 127)),
                           (some (128, false), .mv 129 (.v 17)),
                           (some (128, false), .un 130 .not (.v 129)),
                           (none, .pick 131 (.v 128) (.c (.bool true)) (.v 130)),
                           (none, .mv 132 (.v 131)),
                           (some (132, false), .mv 133 (.v 20)),
                           (some (132, false), .bin 134 .neq (.v 133) (.c (.int .i64 0))),
                           (none, .pick 135 (.v 132) (.c (.bool true)) (.v 134)),
                           (none, .mv 136 (.v 135)),
                           (some (136, false), .mv 137 (.v 19)),
                           (some (136, false), .mv 138 (.v 7)),
                           (some (136, false), .call (some 139) 389 false [((.v 137), false), ((.v 138), false)]),
                           (some (136, false), .un 140 .not (.v 139)),
                           (none, .pick 141 (.v 136) (.c (.bool true)) (.v 140))])
                         (.cond (.v 141)
                          (.seq
                           (.region [] [] [4] false [
                             (none, .asg 4 (.c (.bool false)) .copy)])
                           (.ret [4]))
                          (.skip [1, 5, 6, 8, 9, 15])))
                        (.seq
                         (.region [(142, 15, false)] [] [1, 5, 6, 7, 8, 9] false [
                           (none, .mv 142 (.v 15)),
                           (none, .asg 7 (.v 142) .move)])
                         (.region [] [] [1, 5, 6, 7, 8, 9] false [
                           (none, .mv 143 (.v 8)),
                           (none, .bin 144 .add (.v 143) (.c (.int .i64 1))),
                           (none, .asg 8 (.v 144) .copy)]))))))))))))
              (.region [] [] [1, 5, 6, 7, 8, 9] false [
                (none, .mv 45 (.v 9)),
                (none, .bin 46 .add (.v 45) (.c (.int .i64 1))),
                (none, .asg 9 (.v 46) .copy)]))))))
         (.seq
          (.region [(148, 7, false), (147, 6, false)] [] [5, 6, 7, 8, 21, 22] false [
            (none, .load 146 true 2 (.v 5) (some .freeze)),
            (none, .mv 147 (.v 6)),
            (none, .mv 148 (.v 7)),
            (none, .call (some 149) 151 true [((.v 146), false), ((.v 147), false), ((.v 148), false)]),
            (none, .asg 145 (.v 149) .move),
            (none, .extp 150 (.v 145) 0),
            (none, .extp 151 (.v 145) 1),
            (none, .asg 21 (.v 150) .move),
            (none, .asg 22 (.v 151) .copy)])
          (.seq
           (.seq
            (.region [(161, 21, false), (155, 21, false)] [] [5, 6, 7, 21, 167] false [
              (none, .mv 152 (.v 22)),
              (none, .bin 153 .neq (.v 152) (.c (.int .i64 0))),
              (none, .mv 154 (.v 153)),
              (some (154, false), .mv 155 (.v 21)),
              (some (154, false), .len 156 false (.v 155)),
              (some (154, false), .mv 157 (.v 8)),
              (some (154, false), .bin 158 .gtr (.v 156) (.v 157)),
              (none, .pick 159 (.v 154) (.c (.bool true)) (.v 158)),
              (none, .mv 160 (.v 159)),
              (some (160, false), .mv 161 (.v 21)),
              (some (160, false), .len 162 false (.v 161)),
              (some (160, false), .mv 163 (.v 8)),
              (some (160, false), .bin 164 .sub (.v 162) (.v 163)),
              (some (160, false), .bin 165 .rem (.v 164) (.c (.int .i64 2))),
              (some (160, false), .bin 166 .neq (.v 165) (.c (.int .i64 0))),
              (none, .pick 167 (.v 160) (.c (.bool true)) (.v 166))])
            (.cond (.v 167)
             (.seq
              (.region [] [] [4] false [
                (none, .asg 4 (.c (.bool false)) .copy)])
              (.ret [4]))
             (.skip [5, 6, 7, 21])))
           (.seq
            (.region [(169, 6, false)] [] [5, 6, 7, 21, 23] false [
              (none, .mksl 168 1 (.int .i64 0) 0 []),
              (none, .mv 169 (.v 6)),
              (none, .app 170 1 (.v 168) (.v 169) .freeze),
              (none, .asg 23 (.v 170) .freeze)])
            (.seq
             (.seq
              (.region [] [] [5, 6, 7, 21, 23, 24] false [
                (none, .asg 24 (.c (.int .i64 0)) .copy)])
              (.block 2
               (.loop
                (.seq
                 (.seq
                  (.region [(172, 21, false)] [] [5, 6, 7, 21, 23, 24, 174] false [
                    (none, .mv 171 (.v 24)),
                    (none, .mv 172 (.v 21)),
                    (none, .len 173 false (.v 172)),
                    (none, .bin 174 .lss (.v 171) (.v 173))])
                  (.cond (.v 174)
                   (.skip [5, 6, 7, 21, 23, 24])
                   (.exit 2 [5, 6, 7, 21, 23])))
                 (.seq
                  (.block 3
                   (.seq
                    (.seq
                     (.region [(187, 6, false), (185, 21, false), (183, 21, false), (179, 21, false), (177, 21, false)] [] [5, 6, 7, 21, 23, 24, 191] false [
                       (none, .mv 177 (.v 21)),
                       (none, .mv 178 (.v 24)),
                       (none, .iadr 179 1 (.v 177) (.v 178)),
                       (none, .load 180 false 1 (.v 179) none),
                       (none, .bin 181 .lss (.v 180) (.c (.int .i64 0))),
                       (none, .mv 182 (.v 181)),
                       (some (182, false), .mv 183 (.v 21)),
                       (some (182, false), .mv 184 (.v 24)),
                       (some (182, false), .iadr 185 1 (.v 183) (.v 184)),
                       (some (182, false), .load 186 false 1 (.v 185) none),
                       (some (182, false), .mv 187 (.v 6)),
                       (some (182, false), .len 188 false (.v 187)),
                       (some (182, false), .bin 189 .mul (.c (.int .i64 2)) (.v 188)),
                       (some (182, false), .bin 190 .geq (.v 186) (.v 189)),
                       (none, .pick 191 (.v 182) (.c (.bool true)) (.v 190))])
                     (.cond (.v 191)
                      (.seq
                       (.region [] [] [4] false [
                         (none, .asg 4 (.c (.bool false)) .copy)])
                       (.ret [4]))
                      (.skip [5, 6, 7, 21, 23, 24])))
                    (.seq
                     (.region [(197, 21, false), (195, 21, false), (194, 23, false)] [] [5, 6, 7, 21, 24, 25, 26] true [
                       (none, .load 193 true 2 (.v 5) none),
                       (none, .mv 194 (.v 23)),
                       (none, .mv 195 (.v 21)),
                       (none, .mv 196 (.v 24)),
                       (none, .iadr 197 1 (.v 195) (.v 196)),
                       (none, .load 198 false 1 (.v 197) none),
                       (none, .call (some 199) 548 false [((.v 193), false), ((.v 194), false), ((.v 198), false)]),
                       (none, .asg 192 (.v 199) .freeze),
                       (none, .extp 200 (.v 192) 0),
                       (none, .extp 201 (.v 192) 1),
                       (none, .asg 25 (.v 200) .copy),
                       (none, .asg 26 (.v 201) .copy)])
                     (.seq
                      (.seq
                       (.region [] [] [5, 6, 7, 21, 24, 25, 203] false [
                         (none, .mv 202 (.v 26)),
                         (none, .bin 203 .neq (.v 202) (.c (.int .i64 0)))])
                       (.cond (.v 203)
                        (.seq
                         (.region [] [] [4] false [
                           (none, .asg 4 (.c (.bool false)) .copy)])
                         (.ret [4]))
                        (.skip [5, 6, 7, 21, 24, 25])))
                      (.region [(204, 25, false)] [] [5, 6, 7, 21, 23, 24] false [
                        (none, .mv 204 (.v 25)),
                        (none, .asg 23 (.v 204) .freeze)])))))
                  (.region [] [] [5, 6, 7, 21, 23, 24] false [
                    (none, .mv 175 (.v 24)),
                    (none, .bin 176 .add (.v 175) (.c (.int .i64 1))),
                    (none, .asg 24 (.v 176) .copy)]))))))
             (.seq
              (.region [(209, 6, false), (208, 7, false), (207, 6, false)] [] [7, 21, 23, 27, 28] false [
                (none, .load 206 true 2 (.v 5) (some .move)),
                (none, .mv 207 (.v 6)),
                (none, .mv 208 (.v 7)),
                (none, .mv 209 (.v 6)),
                (none, .mksl 210 1 (.sl false 1 []) 2 [(0, (.v 208), .freeze), (1, (.v 209), .freeze)]),
                (none, .call (some 211) 181 false [((.v 206), false), ((.v 207), false), ((.v 210), false)]),
                (none, .asg 205 (.v 211) .copy),
                (none, .extp 212 (.v 205) 0),
                (none, .extp 213 (.v 205) 1),
                (none, .asg 27 (.v 212) .copy),
                (none, .asg 28 (.v 213) .copy)])
              (.seq
               (.region [(223, 21, false), (215, 7, false), (214, 23, false)] [] [4] false [
                 (none, .mv 214 (.v 23)),
                 (none, .mv 215 (.v 7)),
                 (none, .call (some 216) 389 false [((.v 214), false), ((.v 215), false)]),
                 (none, .mv 217 (.v 216)),
                 (some (217, true), .mv 218 (.v 28)),
                 (some (217, true), .bin 219 .eql (.v 218) (.c (.int .i64 0))),
                 (none, .pick 220 (.v 217) (.v 219) (.c (.bool false))),
                 (none, .mv 221 (.v 220)),
                 (some (221, true), .mv 222 (.v 27)),
                 (some (221, true), .mv 223 (.v 21)),
                 (some (221, true), .len 224 false (.v 223)),
                 (some (221, true), .bin 225 .mul (.c (.int .i64 2)) (.v 224)),
                 (some (221, true), .bin 226 .eql (.v 222) (.v 225)),
                 (none, .pick 227 (.v 221) (.v 226) (.c (.bool false))),
                 (none, .asg 4 (.v 227) .copy)])
               (.ret [4]))))))))))))))⟩
def tabl : List (Nat × PFunc) := [(22, F22), (820, F820), (798, F798), (21, F21), (326, F326), (24, F24), (233, F233), (234, F234), (818, F818), (796, F796), (232, F232), (142, F142), (23, F23), (310, F310), (311, F311), (817, F817), (795, F795), (309, F309), (148, F148), (150, F150), (25, F25), (151, F151), (182, F182), (181, F181), (384, F384), (386, F386), (388, F388), (389, F389), (5, F5), (7, F7), (603, F603), (701, F701), (702, F702), (435, F435), (605, F605), (705, F705), (706, F706), (700, F700), (608, F608), (703, F703), (548, F548), (704, F704), (549, F549), (354, F354)]
def T : Nat → Option PFunc := tabOf tabl
end Go.Vs.G
