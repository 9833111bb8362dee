/- The functions that the law reaches, in the small language, printed by program. No conditions. -/
import Derived.Test.YtomlgmfkjibijaaDoorDXFuelFor
import Derived.Test.YtomlgmfkjibijaaDoorV4
set_option maxRecDepth 100000
open Go Go.Vs
namespace Go.Vs.G
def F207 : PFunc :=
 ⟨[false], [.tmp 2],
  (.seq
   (.region [] [] [0] false [
     (none, .asg 2 (.c (.bool false)) .copy)])
   (.seq
    (.region [] [] [2] false [
      (none, .mv 3 (.v 0)),
      (none, .len 4 true (.v 3)),
      (none, .bin 5 .leq (.v 4) (.c (.int .i64 60))),
      (none, .mv 6 (.v 5)),
      (some (6, true), .mv 7 (.v 0)),
      (some (6, true), .call (some 8) 876 false [((.v 7), false), ((.c (.str [48, 49])), false)]),
      (some (6, true), .bin 9 .eql (.v 8) (.c (.str []))),
      (none, .pick 10 (.v 6) (.v 9) (.c (.bool false))),
      (none, .asg 2 (.v 10) .copy)])
    (.ret [2])))⟩
def F255 : PFunc :=
 ⟨[false], [.tmp 2],
  (.seq
   (.region [] [] [0] false [
     (none, .asg 2 (.c (.sl true 1 [])) .copy)])
   (.seq
    (.region [] [] [0, 3] false [
      (none, .mksl 5 1 (.sl true 1 []) 0 []),
      (none, .asg 3 (.v 5) .move)])
    (.seq
     (.seq
      (.region [] [] [0, 3, 7, 8] false [
        (none, .mv 6 (.v 0)),
        (none, .len 7 true (.v 6)),
        (none, .mv 8 (.c (.int .i64 0)))])
      (.block 0
       (.loop
        (.seq
         (.region [] [] [0, 3, 7, 8, 9] false [
           (none, .bin 9 .lss (.v 8) (.v 7))])
         (.seq
          (.cond (.v 9)
           (.skip [0, 3, 7, 8])
           (.exit 0 [3]))
          (.seq
           (.block 1
            (.seq
             (.region [] [] [0, 3, 4, 7, 8] false [
               (none, .mv 10 (.v 8)),
               (none, .asg 4 (.v 10) .copy)])
             (.block 2
              (.seq
               (.region [] [] [0, 3, 4, 7, 8, 16] false [
                 (none, .mv 17 (.v 0)),
                 (none, .mv 18 (.v 4)),
                 (none, .idx 19 (.v 17) (.v 18)),
                 (none, .bin 20 .eql (.v 19) (.c (.int .u8 48))),
                 (none, .asg 16 (.v 20) .copy)])
               (.cond (.v 16)
                (.skip [0, 3, 7, 8])
                (.seq
                 (.region [] [] [0, 3, 4, 7, 8, 21] false [
                   (none, .mv 22 (.v 4)),
                   (none, .bin 23 .gtr (.v 22) (.c (.int .i64 0))),
                   (none, .mv 24 (.v 23)),
                   (some (24, true), .mv 25 (.v 0)),
                   (some (24, true), .mv 26 (.v 4)),
                   (some (24, true), .bin 27 .sub (.v 26) (.c (.int .i64 1))),
                   (some (24, true), .idx 28 (.v 25) (.v 27)),
                   (some (24, true), .bin 29 .eql (.v 28) (.c (.int .u8 49))),
                   (none, .pick 30 (.v 24) (.v 29) (.c (.bool false))),
                   (none, .asg 21 (.v 30) .copy)])
                 (.cond (.v 21)
                  (.region [(40, 3, true), (37, 3, true), (36, 3, true), (35, 3, false), (32, 3, false), (31, 3, false)] [] [0, 3, 7, 8] false [
                    (none, .mv 31 (.v 3)),
                    (none, .mv 32 (.v 3)),
                    (none, .len 33 false (.v 32)),
                    (none, .bin 34 .sub (.v 33) (.c (.int .i64 1))),
                    (none, .iadr 35 1 (.v 31) (.v 34)),
                    (none, .load 36 false 1 (.v 35) none),
                    (none, .iadr 37 1 (.v 36) (.c (.int .i64 1))),
                    (none, .load 38 false 1 (.v 37) none),
                    (none, .bin 39 .add (.v 38) (.c (.int .i64 1))),
                    (none, .iadr 40 1 (.v 36) (.c (.int .i64 1))),
                    (none, .store 1 (.v 40) (.v 39) .copy)])
                  (.region [(11, 3, false)] [] [0, 3, 7, 8] false [
                    (none, .mv 11 (.v 3)),
                    (none, .mv 12 (.v 4)),
                    (none, .mksl 13 1 (.int .i64 0) 2 [(0, (.v 12), .copy), (1, (.c (.int .i64 1)), .copy)]),
                    (none, .mksl 14 1 (.sl true 1 []) 1 [(0, (.v 13), .move)]),
                    (none, .app 15 1 (.v 11) (.v 14) .move),
                    (none, .asg 3 (.v 15) .move)]))))))))
           (.region [] [] [0, 3, 7, 8] false [
             (none, .bin 41 .add (.v 8) (.c (.int .i64 1))),
             (none, .mv 8 (.v 41))])))))))
     (.seq
      (.region [(42, 3, false)] [] [2] false [
        (none, .mv 42 (.v 3)),
        (none, .asg 2 (.v 42) .move)])
      (.ret [2])))))⟩
def F326 : PFunc :=
 ⟨[false, false, false], [.tmp 6],
  (.seq
   (.region [] [] [0, 1, 2] false [
     (none, .asg 6 (.c (.bool false)) .copy)])
   (.seq
    (.region [] [] [6] false [
      (none, .mv 7 (.v 0)),
      (none, .mv 8 (.v 1)),
      (none, .bin 9 .geq (.v 7) (.v 8)),
      (none, .mv 10 (.v 9)),
      (some (10, true), .mv 11 (.v 0)),
      (some (10, true), .mv 12 (.v 2)),
      (some (10, true), .bin 13 .leq (.v 11) (.v 12)),
      (none, .pick 14 (.v 10) (.v 13) (.c (.bool false))),
      (none, .asg 6 (.v 14) .copy)])
    (.ret [6])))⟩
def F104 : PFunc :=
 ⟨[false, false, false], [.tmp 6, .tmp 7],
  (.seq
   (.region [] [] [0, 1, 2] false [
     (none, .asg 6 (.c (.int .i64 0)) .copy),
     (none, .asg 7 (.c (.int .i64 0)) .copy)])
   (.seq
    (.block 0
     (.seq
      (.region [] [] [0, 1, 2, 8] false [
        (none, .mv 9 (.v 0)),
        (none, .call (some 10) 207 false [((.v 9), false)]),
        (none, .un 11 .not (.v 10)),
        (none, .asg 8 (.v 11) .copy)])
      (.cond (.v 8)
       (.seq
        (.region [] [] [6, 7] false [
          (none, .asg 6 (.c (.int .i64 0)) .copy),
          (none, .asg 7 (.c (.int .i64 1)) .copy)])
        (.ret [6, 7]))
       (.seq
        (.region [] [] [0, 1, 2, 12] false [
          (none, .mv 13 (.v 1)),
          (none, .call (some 14) 326 false [((.v 13), false), ((.c (.int .i64 0)), false), ((.c (.int .i64 1000)), false)]),
          (none, .un 15 .not (.v 14)),
          (none, .mv 16 (.v 15)),
          (some (16, false), .mv 17 (.v 2)),
          (some (16, false), .call (some 18) 326 false [((.v 17), false), ((.c (.int .i64 0)), false), ((.c (.int .i64 1000)), false)]),
          (some (16, false), .un 19 .not (.v 18)),
          (none, .pick 20 (.v 16) (.c (.bool true)) (.v 19)),
          (none, .asg 12 (.v 20) .copy)])
        (.cond (.v 12)
         (.seq
          (.region [] [] [6, 7] false [
            (none, .asg 6 (.c (.int .i64 0)) .copy),
            (none, .asg 7 (.c (.int .i64 2)) .copy)])
          (.ret [6, 7]))
         (.skip [0, 1, 2]))))))
    (.seq
     (.region [] [] [6, 7] false [
       (none, .mv 21 (.v 1)),
       (none, .mv 22 (.v 0)),
       (none, .call (some 23) 870 false [((.v 22), false), ((.c (.str [49])), false)]),
       (none, .bin 24 .mul (.v 21) (.v 23)),
       (none, .mv 25 (.v 2)),
       (none, .mv 26 (.v 0)),
       (none, .call (some 27) 255 false [((.v 26), false)]),
       (none, .len 28 false (.v 27)),
       (none, .bin 29 .mul (.v 25) (.v 28)),
       (none, .bin 30 .add (.v 24) (.v 29)),
       (none, .asg 6 (.v 30) .copy),
       (none, .asg 7 (.c (.int .i64 0)) .copy)])
     (.ret [6, 7]))))⟩
def F605 : PFunc :=
 ⟨[false, false, false], [.tmp 6],
  (.seq
   (.region [] [] [0, 1, 2] false [
     (none, .asg 6 (.c (.bool false)) .copy)])
   (.seq
    (.region [] [] [6] false [
      (none, .mv 7 (.v 0)),
      (none, .mv 8 (.v 1)),
      (none, .bin 9 .geq (.v 7) (.v 8)),
      (none, .mv 10 (.v 9)),
      (some (10, true), .mv 11 (.v 0)),
      (some (10, true), .mv 12 (.v 2)),
      (some (10, true), .bin 13 .leq (.v 11) (.v 12)),
      (none, .pick 14 (.v 10) (.v 13) (.c (.bool false))),
      (none, .asg 6 (.v 14) .copy)])
    (.ret [6])))⟩
def F757 : PFunc :=
 ⟨[false], [.tmp 2],
  (.seq
   (.region [] [] [0] false [
     (none, .asg 2 (.c (.bool false)) .copy)])
   (.seq
    (.seq
     (.region [] [] [0, 3] false [
       (none, .asg 3 (.c (.int .i64 0)) .copy)])
     (.block 0
      (.loop
       (.seq
        (.seq
         (.region [] [] [0, 3, 7] false [
           (none, .mv 4 (.v 3)),
           (none, .mv 5 (.v 0)),
           (none, .len 6 true (.v 5)),
           (none, .bin 7 .lss (.v 4) (.v 6))])
         (.cond (.v 7)
          (.skip [0, 3])
          (.exit 0 [0])))
        (.seq
         (.block 1
          (.seq
           (.region [] [] [0, 3, 19] false [
             (none, .mv 10 (.v 0)),
             (none, .mv 11 (.v 3)),
             (none, .idx 12 (.v 10) (.v 11)),
             (none, .bin 13 .neq (.v 12) (.c (.int .u8 48))),
             (none, .mv 14 (.v 13)),
             (some (14, true), .mv 15 (.v 0)),
             (some (14, true), .mv 16 (.v 3)),
             (some (14, true), .idx 17 (.v 15) (.v 16)),
             (some (14, true), .bin 18 .neq (.v 17) (.c (.int .u8 49))),
             (none, .pick 19 (.v 14) (.v 18) (.c (.bool false)))])
           (.cond (.v 19)
            (.seq
             (.region [] [] [2] false [
               (none, .asg 2 (.c (.bool false)) .copy)])
             (.ret [2]))
            (.skip [0, 3]))))
         (.region [] [] [0, 3] false [
           (none, .mv 8 (.v 3)),
           (none, .bin 9 .add (.v 8) (.c (.int .i64 1))),
           (none, .asg 3 (.v 9) .copy)]))))))
    (.seq
     (.region [] [] [2] false [
       (none, .mv 20 (.v 0)),
       (none, .len 21 true (.v 20)),
       (none, .bin 22 .leq (.v 21) (.c (.int .i64 60))),
       (none, .asg 2 (.v 22) .copy)])
     (.ret [2]))))⟩
def F758 : PFunc :=
 ⟨[false], [.tmp 2],
  (.seq
   (.region [] [] [0] false [
     (none, .asg 2 (.c (.sl true 1 [])) .copy)])
   (.seq
    (.region [] [] [0, 3] false [
      (none, .mksl 5 1 (.sl true 1 []) 0 []),
      (none, .asg 3 (.v 5) .move)])
    (.seq
     (.seq
      (.region [] [] [0, 3, 4] false [
        (none, .asg 4 (.c (.int .i64 0)) .copy)])
      (.block 0
       (.loop
        (.seq
         (.seq
          (.region [] [] [0, 3, 4, 9] false [
            (none, .mv 6 (.v 4)),
            (none, .mv 7 (.v 0)),
            (none, .len 8 true (.v 7)),
            (none, .bin 9 .lss (.v 6) (.v 8))])
          (.cond (.v 9)
           (.skip [0, 3, 4])
           (.exit 0 [3])))
         (.seq
          (.block 1
           (.seq
            (.seq
             (.region [] [] [0, 3, 4, 15] false [
               (none, .mv 12 (.v 0)),
               (none, .mv 13 (.v 4)),
               (none, .idx 14 (.v 12) (.v 13)),
               (none, .bin 15 .neq (.v 14) (.c (.int .u8 49)))])
             (.cond (.v 15)
              (.exit 1 [0, 3, 4])
              (.skip [0, 3, 4])))
            (.seq
             (.seq
              (.region [] [] [0, 3, 4, 24] false [
                (none, .mv 16 (.v 4)),
                (none, .bin 17 .eql (.v 16) (.c (.int .i64 0))),
                (none, .mv 18 (.v 17)),
                (some (18, false), .mv 19 (.v 0)),
                (some (18, false), .mv 20 (.v 4)),
                (some (18, false), .bin 21 .sub (.v 20) (.c (.int .i64 1))),
                (some (18, false), .idx 22 (.v 19) (.v 21)),
                (some (18, false), .bin 23 .neq (.v 22) (.c (.int .u8 49))),
                (none, .pick 24 (.v 18) (.c (.bool true)) (.v 23))])
              (.cond (.v 24)
               (.region [(25, 3, false)] [] [0, 3, 4] false [
                 (none, .mv 25 (.v 3)),
                 (none, .mv 26 (.v 4)),
                 (none, .mksl 27 1 (.int .i64 0) 2 [(0, (.v 26), .copy), (1, (.c (.int .i64 0)), .copy)]),
                 (none, .mksl 28 1 (.sl true 1 []) 1 [(0, (.v 27), .move)]),
                 (none, .app 29 1 (.v 25) (.v 28) .move),
                 (none, .asg 3 (.v 29) .move)])
               (.skip [0, 3, 4])))
             (.region [(39, 3, true), (36, 3, true), (35, 3, true), (34, 3, false), (31, 3, false), (30, 3, false)] [] [0, 3, 4] false [
               (none, .mv 30 (.v 3)),
               (none, .mv 31 (.v 3)),
               (none, .len 32 false (.v 31)),
               (none, .bin 33 .sub (.v 32) (.c (.int .i64 1))),
               (none, .iadr 34 1 (.v 30) (.v 33)),
               (none, .load 35 false 1 (.v 34) none),
               (none, .iadr 36 1 (.v 35) (.c (.int .i64 1))),
               (none, .load 37 false 1 (.v 36) none),
               (none, .bin 38 .add (.v 37) (.c (.int .i64 1))),
               (none, .iadr 39 1 (.v 35) (.c (.int .i64 1))),
               (none, .store 1 (.v 39) (.v 38) .copy)]))))
          (.region [] [] [0, 3, 4] false [
            (none, .mv 10 (.v 4)),
            (none, .bin 11 .add (.v 10) (.c (.int .i64 1))),
            (none, .asg 4 (.v 11) .copy)]))))))
     (.seq
      (.region [(40, 3, false)] [] [2] false [
        (none, .mv 40 (.v 3)),
        (none, .asg 2 (.v 40) .move)])
      (.ret [2])))))⟩
def F527 : PFunc :=
 ⟨[false, false, false], [.tmp 6, .tmp 7],
  (.seq
   (.region [] [] [0, 1, 2] false [
     (none, .asg 6 (.c (.int .i64 0)) .copy),
     (none, .asg 7 (.c (.int .i64 0)) .copy)])
   (.seq
    (.seq
     (.region [] [] [0, 1, 2, 13] false [
       (none, .mv 11 (.v 0)),
       (none, .call (some 12) 757 false [((.v 11), false)]),
       (none, .un 13 .not (.v 12))])
     (.cond (.v 13)
      (.seq
       (.region [] [] [6, 7] false [
         (none, .asg 6 (.c (.int .i64 0)) .copy),
         (none, .asg 7 (.c (.int .i64 1)) .copy)])
       (.ret [6, 7]))
      (.skip [0, 1, 2])))
    (.seq
     (.seq
      (.region [] [] [0, 1, 2, 21] false [
        (none, .mv 14 (.v 1)),
        (none, .call (some 15) 605 false [((.v 14), false), ((.c (.int .i64 0)), false), ((.c (.int .i64 1000)), false)]),
        (none, .un 16 .not (.v 15)),
        (none, .mv 17 (.v 16)),
        (some (17, false), .mv 18 (.v 2)),
        (some (17, false), .call (some 19) 605 false [((.v 18), false), ((.c (.int .i64 0)), false), ((.c (.int .i64 1000)), false)]),
        (some (17, false), .un 20 .not (.v 19)),
        (none, .pick 21 (.v 17) (.c (.bool true)) (.v 20))])
      (.cond (.v 21)
       (.seq
        (.region [] [] [6, 7] false [
          (none, .asg 6 (.c (.int .i64 0)) .copy),
          (none, .asg 7 (.c (.int .i64 2)) .copy)])
        (.ret [6, 7]))
       (.skip [0, 1, 2])))
     (.seq
      (.region [] [] [1, 2, 8] false [
        (none, .mv 22 (.v 0)),
        (none, .call (some 23) 758 false [((.v 22), false)]),
        (none, .asg 8 (.v 23) .move)])
      (.seq
       (.region [(25, 8, false)] [] [1, 8, 9] false [
         (none, .mv 24 (.v 2)),
         (none, .mv 25 (.v 8)),
         (none, .len 26 false (.v 25)),
         (none, .bin 27 .mul (.v 24) (.v 26)),
         (none, .asg 9 (.v 27) .copy)])
       (.seq
        (.seq
         (.region [] [] [1, 8, 9, 10] false [
           (none, .asg 10 (.c (.int .i64 0)) .copy)])
         (.block 0
          (.loop
           (.seq
            (.seq
             (.region [(29, 8, false)] [] [1, 8, 9, 10, 31] false [
               (none, .mv 28 (.v 10)),
               (none, .mv 29 (.v 8)),
               (none, .len 30 false (.v 29)),
               (none, .bin 31 .lss (.v 28) (.v 30))])
             (.cond (.v 31)
              (.skip [1, 8, 9, 10])
              (.exit 0 [9])))
            (.seq
             (.block 1
              (.region [(40, 8, true), (39, 8, true), (38, 8, false), (36, 8, false)] [] [1, 8, 9, 10] false [
                (none, .mv 34 (.v 9)),
                (none, .mv 35 (.v 1)),
                (none, .mv 36 (.v 8)),
                (none, .mv 37 (.v 10)),
                (none, .iadr 38 1 (.v 36) (.v 37)),
                (none, .load 39 false 1 (.v 38) none),
                (none, .iadr 40 1 (.v 39) (.c (.int .i64 1))),
                (none, .load 41 false 1 (.v 40) none),
                (none, .bin 42 .mul (.v 35) (.v 41)),
                (none, .bin 43 .add (.v 34) (.v 42)),
                (none, .asg 9 (.v 43) .copy)]))
             (.region [] [] [1, 8, 9, 10] false [
               (none, .mv 32 (.v 10)),
               (none, .bin 33 .add (.v 32) (.c (.int .i64 1))),
               (none, .asg 10 (.v 33) .copy)]))))))
        (.seq
         (.region [] [] [6, 7] false [
           (none, .mv 44 (.v 9)),
           (none, .asg 6 (.v 44) .copy),
           (none, .asg 7 (.c (.int .i64 0)) .copy)])
         (.ret [6, 7]))))))))⟩
def F343 : PFunc :=
 ⟨[false, false, false], [.tmp 6],
  (.seq
   (.region [] [] [0, 1, 2] false [
     (none, .asg 6 (.c (.bool false)) .copy)])
   (.seq
    (.seq
     (.region [] [] [0, 1, 2, 13] false [
       (none, .mv 11 (.v 0)),
       (none, .len 12 true (.v 11)),
       (none, .bin 13 .gtr (.v 12) (.c (.int .i64 1048576)))])
     (.cond (.v 13)
      (.seq
       (.region [] [] [6] false [
         (none, .asg 6 (.c (.bool true)) .copy)])
       (.ret [6]))
      (.skip [0, 1, 2])))
    (.seq
     (.region [] [] [0, 1, 2, 7, 8] false [
       (none, .mv 15 (.v 0)),
       (none, .mv 16 (.v 1)),
       (none, .mv 17 (.v 2)),
       (none, .call (some 18) 527 false [((.v 15), false), ((.v 16), false), ((.v 17), false)]),
       (none, .asg 14 (.v 18) .copy),
       (none, .extp 19 (.v 14) 0),
       (none, .extp 20 (.v 14) 1),
       (none, .asg 7 (.v 19) .copy),
       (none, .asg 8 (.v 20) .copy)])
     (.seq
      (.region [] [] [7, 8, 9, 10] false [
        (none, .mv 22 (.v 0)),
        (none, .mv 23 (.v 1)),
        (none, .mv 24 (.v 2)),
        (none, .call (some 25) 104 false [((.v 22), false), ((.v 23), false), ((.v 24), false)]),
        (none, .asg 21 (.v 25) .copy),
        (none, .extp 26 (.v 21) 0),
        (none, .extp 27 (.v 21) 1),
        (none, .asg 9 (.v 26) .copy),
        (none, .asg 10 (.v 27) .copy)])
      (.seq
       (.seq
        (.region [] [] [35] false [
          (none, .mv 28 (.v 9)),
          (none, .mv 29 (.v 7)),
          (none, .bin 30 .neq (.v 28) (.v 29)),
          (none, .mv 31 (.v 30)),
          (some (31, false), .mv 32 (.v 10)),
          (some (31, false), .mv 33 (.v 8)),
          (some (31, false), .bin 34 .neq (.v 32) (.v 33)),
          (none, .pick 35 (.v 31) (.c (.bool true)) (.v 34))])
        (.cond (.v 35)
         (.seq
          (.region [] [] [6] false [
            (none, .asg 6 (.c (.bool false)) .copy)])
          (.ret [6]))
         (.skip [])))
       (.seq
        (.region [] [] [6] false [
          (none, .asg 6 (.c (.bool true)) .copy)])
        (.ret [6])))))))⟩
def tabl : List (Nat × PFunc) := [(207, F207), (255, F255), (326, F326), (104, F104), (605, F605), (757, F757), (758, F758), (527, F527), (343, F343)]
def T : Nat → Option PFunc := tabOf tabl
end Go.Vs.G
