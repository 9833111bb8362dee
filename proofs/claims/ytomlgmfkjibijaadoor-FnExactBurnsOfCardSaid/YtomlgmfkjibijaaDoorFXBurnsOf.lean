/- The functions that the law reaches, in the small language, printed by program. No conditions. -/
import Derived.Test.YtomlgmfkjibijaaDoorDXBurnsOf
import Derived.Test.YtomlgmfkjibijaaDoorV4
set_option maxRecDepth 100000
open Go Go.Vs
namespace Go.Vs.G
def F207 : PFunc :=
 ⟨[false], [.tmp 2],
  (.seq
   (.region [] [] [0] false [
     (none, .asg 2 (.c (.bool false)) .copy)])
   (.seq
    (.region [] [] [2] false [
      (none, .mv 3 (.v 0)),
      (none, .len 4 true (.v 3)),
      (none, .bin 5 .leq (.v 4) (.c (.int .i64 60))),
      (none, .mv 6 (.v 5)),
      (some (6, true), .mv 7 (.v 0)),
      (some (6, true), .call (some 8) 876 false [((.v 7), false), ((.c (.str [48, 49])), false)]),
      (some (6, true), .bin 9 .eql (.v 8) (.c (.str []))),
      (none, .pick 10 (.v 6) (.v 9) (.c (.bool false))),
      (none, .asg 2 (.v 10) .copy)])
    (.ret [2])))⟩
def F255 : PFunc :=
 ⟨[false], [.tmp 2],
  (.seq
   (.region [] [] [0] false [
     (none, .asg 2 (.c (.sl true 1 [])) .copy)])
   (.seq
    (.region [] [] [0, 3] false [
      (none, .mksl 5 1 (.sl true 1 []) 0 []),
      (none, .asg 3 (.v 5) .move)])
    (.seq
     (.seq
      (.region [] [] [0, 3, 7, 8] false [
        (none, .mv 6 (.v 0)),
        (none, .len 7 true (.v 6)),
        (none, .mv 8 (.c (.int .i64 0)))])
      (.block 0
       (.loop
        (.seq
         (.region [] [] [0, 3, 7, 8, 9] false [
           (none, .bin 9 .lss (.v 8) (.v 7))])
         (.seq
          (.cond (.v 9)
           (.skip [0, 3, 7, 8])
           (.exit 0 [3]))
          (.seq
           (.block 1
            (.seq
             (.region [] [] [0, 3, 4, 7, 8] false [
               (none, .mv 10 (.v 8)),
               (none, .asg 4 (.v 10) .copy)])
             (.block 2
              (.seq
               (.region [] [] [0, 3, 4, 7, 8, 16] false [
                 (none, .mv 17 (.v 0)),
                 (none, .mv 18 (.v 4)),
                 (none, .idx 19 (.v 17) (.v 18)),
                 (none, .bin 20 .eql (.v 19) (.c (.int .u8 48))),
                 (none, .asg 16 (.v 20) .copy)])
               (.cond (.v 16)
                (.skip [0, 3, 7, 8])
                (.seq
                 (.region [] [] [0, 3, 4, 7, 8, 21] false [
                   (none, .mv 22 (.v 4)),
                   (none, .bin 23 .gtr (.v 22) (.c (.int .i64 0))),
                   (none, .mv 24 (.v 23)),
                   (some (24, true), .mv 25 (.v 0)),
                   (some (24, true), .mv 26 (.v 4)),
                   (some (24, true), .bin 27 .sub (.v 26) (.c (.int .i64 1))),
                   (some (24, true), .idx 28 (.v 25) (.v 27)),
                   (some (24, true), .bin 29 .eql (.v 28) (.c (.int .u8 49))),
                   (none, .pick 30 (.v 24) (.v 29) (.c (.bool false))),
                   (none, .asg 21 (.v 30) .copy)])
                 (.cond (.v 21)
                  (.region [(40, 3, true), (37, 3, true), (36, 3, true), (35, 3, false), (32, 3, false), (31, 3, false)] [] [0, 3, 7, 8] false [
                    (none, .mv 31 (.v 3)),
                    (none, .mv 32 (.v 3)),
                    (none, .len 33 false (.v 32)),
                    (none, .bin 34 .sub (.v 33) (.c (.int .i64 1))),
                    (none, .iadr 35 1 (.v 31) (.v 34)),
                    (none, .load 36 false 1 (.v 35) none),
                    (none, .iadr 37 1 (.v 36) (.c (.int .i64 1))),
                    (none, .load 38 false 1 (.v 37) none),
                    (none, .bin 39 .add (.v 38) (.c (.int .i64 1))),
                    (none, .iadr 40 1 (.v 36) (.c (.int .i64 1))),
                    (none, .store 1 (.v 40) (.v 39) .copy)])
                  (.region [(11, 3, false)] [] [0, 3, 7, 8] false [
                    (none, .mv 11 (.v 3)),
                    (none, .mv 12 (.v 4)),
                    (none, .mksl 13 1 (.int .i64 0) 2 [(0, (.v 12), .copy), (1, (.c (.int .i64 1)), .copy)]),
                    (none, .mksl 14 1 (.sl true 1 []) 1 [(0, (.v 13), .move)]),
                    (none, .app 15 1 (.v 11) (.v 14) .move),
                    (none, .asg 3 (.v 15) .move)]))))))))
           (.region [] [] [0, 3, 7, 8] false [
             (none, .bin 41 .add (.v 8) (.c (.int .i64 1))),
             (none, .mv 8 (.v 41))])))))))
     (.seq
      (.region [(42, 3, false)] [] [2] false [
        (none, .mv 42 (.v 3)),
        (none, .asg 2 (.v 42) .move)])
      (.ret [2])))))⟩
def F61 : PFunc :=
 ⟨[false], [.tmp 2, .tmp 3],
  (.seq
   (.region [] [] [0] false [
     (none, .asg 2 (.c (.sl true 1 [])) .copy),
     (none, .asg 3 (.c (.int .i64 0)) .copy)])
   (.seq
    (.seq
     (.region [] [] [0, 6] false [
       (none, .mv 4 (.v 0)),
       (none, .call (some 5) 207 false [((.v 4), false)]),
       (none, .un 6 .not (.v 5))])
     (.cond (.v 6)
      (.seq
       (.region [] [] [2, 3] false [
         (none, .asg 2 (.c (.sl true 1 [])) .copy),
         (none, .asg 3 (.c (.int .i64 1)) .copy)])
       (.ret [2, 3]))
      (.skip [0])))
    (.seq
     (.region [] [] [2, 3] false [
       (none, .mv 7 (.v 0)),
       (none, .call (some 8) 255 false [((.v 7), false)]),
       (none, .asg 2 (.v 8) .move),
       (none, .asg 3 (.c (.int .i64 0)) .copy)])
     (.ret [2, 3]))))⟩
def F393 : PFunc :=
 ⟨[false, false], [.tmp 4],
  (.seq
   (.region [] [] [0, 1] false [
     (none, .asg 4 (.c (.bool false)) .copy)])
   (.seq
    (.seq
     (.region [(8, 1, false), (6, 0, false)] [] [0, 1, 10] false [
       (none, .mv 6 (.v 0)),
       (none, .len 7 false (.v 6)),
       (none, .mv 8 (.v 1)),
       (none, .len 9 false (.v 8)),
       (none, .bin 10 .neq (.v 7) (.v 9))])
     (.cond (.v 10)
      (.seq
       (.region [] [] [4] false [
         (none, .asg 4 (.c (.bool false)) .copy)])
       (.ret [4]))
      (.skip [0, 1])))
    (.seq
     (.seq
      (.region [] [] [0, 1, 5] false [
        (none, .asg 5 (.c (.int .i64 0)) .copy)])
      (.block 0
       (.loop
        (.seq
         (.seq
          (.region [(12, 0, false)] [] [0, 1, 5, 14] false [
            (none, .mv 11 (.v 5)),
            (none, .mv 12 (.v 0)),
            (none, .len 13 false (.v 12)),
            (none, .bin 14 .lss (.v 11) (.v 13))])
          (.cond (.v 14)
           (.skip [0, 1, 5])
           (.exit 0 [])))
         (.seq
          (.block 1
           (.seq
            (.region [(23, 1, false), (21, 1, false), (19, 0, false), (17, 0, false)] [] [0, 1, 5, 25] true [
              (none, .mv 17 (.v 0)),
              (none, .mv 18 (.v 5)),
              (none, .iadr 19 1 (.v 17) (.v 18)),
              (none, .load 20 false 1 (.v 19) none),
              (none, .mv 21 (.v 1)),
              (none, .mv 22 (.v 5)),
              (none, .iadr 23 1 (.v 21) (.v 22)),
              (none, .load 24 false 1 (.v 23) none),
              (none, .bin 25 .neq (.v 20) (.v 24))])
            (.cond (.v 25)
             (.seq
              (.region [] [] [4] false [
                (none, .asg 4 (.c (.bool false)) .copy)])
              (.ret [4]))
             (.skip [0, 1, 5]))))
          (.region [] [] [0, 1, 5] false [
            (none, .mv 15 (.v 5)),
            (none, .bin 16 .add (.v 15) (.c (.int .i64 1))),
            (none, .asg 5 (.v 16) .copy)]))))))
     (.seq
      (.region [] [] [4] false [
        (none, .asg 4 (.c (.bool true)) .copy)])
      (.ret [4])))))⟩
def F394 : PFunc :=
 ⟨[false, false], [.tmp 4],
  (.seq
   (.region [] [] [0, 1] false [
     (none, .asg 4 (.c (.bool false)) .copy)])
   (.seq
    (.seq
     (.region [(8, 1, false), (6, 0, false)] [] [0, 1, 10] false [
       (none, .mv 6 (.v 0)),
       (none, .len 7 false (.v 6)),
       (none, .mv 8 (.v 1)),
       (none, .len 9 false (.v 8)),
       (none, .bin 10 .neq (.v 7) (.v 9))])
     (.cond (.v 10)
      (.seq
       (.region [] [] [4] false [
         (none, .asg 4 (.c (.bool false)) .copy)])
       (.ret [4]))
      (.skip [0, 1])))
    (.seq
     (.seq
      (.region [] [] [0, 1, 5] false [
        (none, .asg 5 (.c (.int .i64 0)) .copy)])
      (.block 0
       (.loop
        (.seq
         (.seq
          (.region [(12, 0, false)] [] [0, 1, 5, 14] false [
            (none, .mv 11 (.v 5)),
            (none, .mv 12 (.v 0)),
            (none, .len 13 false (.v 12)),
            (none, .bin 14 .lss (.v 11) (.v 13))])
          (.cond (.v 14)
           (.skip [0, 1, 5])
           (.exit 0 [])))
         (.seq
          (.block 1
           (.seq
            (.region [(24, 1, true), (23, 1, false), (21, 1, false), (20, 0, true), (19, 0, false), (17, 0, false)] [] [0, 1, 5, 26] true [
              (none, .mv 17 (.v 0)),
              (none, .mv 18 (.v 5)),
              (none, .iadr 19 1 (.v 17) (.v 18)),
              (none, .load 20 false 1 (.v 19) none),
              (none, .mv 21 (.v 1)),
              (none, .mv 22 (.v 5)),
              (none, .iadr 23 1 (.v 21) (.v 22)),
              (none, .load 24 false 1 (.v 23) none),
              (none, .call (some 25) 393 false [((.v 20), false), ((.v 24), false)]),
              (none, .un 26 .not (.v 25))])
            (.cond (.v 26)
             (.seq
              (.region [] [] [4] false [
                (none, .asg 4 (.c (.bool false)) .copy)])
              (.ret [4]))
             (.skip [0, 1, 5]))))
          (.region [] [] [0, 1, 5] false [
            (none, .mv 15 (.v 5)),
            (none, .bin 16 .add (.v 15) (.c (.int .i64 1))),
            (none, .asg 5 (.v 16) .copy)]))))))
     (.seq
      (.region [] [] [4] false [
        (none, .asg 4 (.c (.bool true)) .copy)])
      (.ret [4])))))⟩
def F405 : PFunc :=
 ⟨[false, false], [.tmp 4],
  (.seq
   (.region [] [] [0, 1] false [
     (none, .asg 4 (.c (.int .i64 0)) .copy)])
   (.seq
    (.seq
     (.region [] [] [0, 1, 5] false [
       (none, .asg 5 (.c (.int .i64 0)) .copy)])
     (.block 0
      (.loop
       (.seq
        (.seq
         (.region [(7, 0, false)] [] [0, 1, 5, 9] false [
           (none, .mv 6 (.v 5)),
           (none, .mv 7 (.v 0)),
           (none, .len 8 false (.v 7)),
           (none, .bin 9 .lss (.v 6) (.v 8))])
         (.cond (.v 9)
          (.skip [0, 1, 5])
          (.exit 0 [1])))
        (.seq
         (.block 1
          (.seq
           (.seq
            (.region [(14, 0, false), (12, 0, false)] [] [0, 1, 5, 17] false [
              (none, .mv 12 (.v 0)),
              (none, .mv 13 (.v 5)),
              (none, .iadr 14 1 (.v 12) (.v 13)),
              (none, .load 15 false 1 (.v 14) none),
              (none, .mv 16 (.v 1)),
              (none, .bin 17 .neq (.v 15) (.v 16))])
            (.cond (.v 17)
             (.seq
              (.region [] [] [4] false [
                (none, .asg 4 (.c (.int .i64 (-1))) .copy)])
              (.ret [4]))
             (.skip [0, 1, 5])))
           (.region [] [] [0, 1, 5] false [
             (none, .mv 18 (.v 1)),
             (none, .bin 19 .add (.v 18) (.c (.int .i64 1))),
             (none, .asg 1 (.v 19) .copy)])))
         (.region [] [] [0, 1, 5] false [
           (none, .mv 10 (.v 5)),
           (none, .bin 11 .add (.v 10) (.c (.int .i64 1))),
           (none, .asg 5 (.v 11) .copy)]))))))
    (.seq
     (.region [] [] [4] false [
       (none, .mv 20 (.v 1)),
       (none, .asg 4 (.v 20) .copy)])
     (.ret [4]))))⟩
def F406 : PFunc :=
 ⟨[false, false], [.tmp 4],
  (.seq
   (.region [] [] [0, 1] false [
     (none, .asg 4 (.c (.int .i64 0)) .copy)])
   (.seq
    (.seq
     (.region [] [] [0, 1, 5] false [
       (none, .asg 5 (.c (.int .i64 0)) .copy)])
     (.block 0
      (.loop
       (.seq
        (.seq
         (.region [(7, 0, false)] [] [0, 1, 5, 9] false [
           (none, .mv 6 (.v 5)),
           (none, .mv 7 (.v 0)),
           (none, .len 8 false (.v 7)),
           (none, .bin 9 .lss (.v 6) (.v 8))])
         (.cond (.v 9)
          (.skip [0, 1, 5])
          (.exit 0 [1])))
        (.seq
         (.block 1
          (.seq
           (.region [(15, 0, true), (14, 0, false), (12, 0, false)] [] [0, 1, 5] false [
             (none, .mv 12 (.v 0)),
             (none, .mv 13 (.v 5)),
             (none, .iadr 14 1 (.v 12) (.v 13)),
             (none, .load 15 false 1 (.v 14) none),
             (none, .mv 16 (.v 1)),
             (none, .call (some 17) 405 false [((.v 15), false), ((.v 16), false)]),
             (none, .asg 1 (.v 17) .copy)])
           (.seq
            (.region [] [] [0, 1, 5, 19] false [
              (none, .mv 18 (.v 1)),
              (none, .bin 19 .lss (.v 18) (.c (.int .i64 0)))])
            (.cond (.v 19)
             (.seq
              (.region [] [] [4] false [
                (none, .asg 4 (.c (.int .i64 (-1))) .copy)])
              (.ret [4]))
             (.skip [0, 1, 5])))))
         (.region [] [] [0, 1, 5] false [
           (none, .mv 10 (.v 5)),
           (none, .bin 11 .add (.v 10) (.c (.int .i64 1))),
           (none, .asg 5 (.v 11) .copy)]))))))
    (.seq
     (.region [] [] [4] false [
       (none, .mv 20 (.v 1)),
       (none, .asg 4 (.v 20) .copy)])
     (.ret [4]))))⟩
def F408 : PFunc :=
 ⟨[true, false], [.tmp 4],
  (.seq
   (.region [] [] [0, 1] false [
     (none, .asg 4 (.c (.int .i64 0)) .copy)])
   (.seq
    (.seq
     (.region [] [] [0, 1, 5] false [
       (none, .asg 5 (.c (.int .i64 0)) .copy)])
     (.block 0
      (.loop
       (.seq
        (.seq
         (.region [(7, 0, false)] [] [0, 1, 5, 9] false [
           (none, .mv 6 (.v 5)),
           (none, .mv 7 (.v 0)),
           (none, .len 8 false (.v 7)),
           (none, .bin 9 .lss (.v 6) (.v 8))])
         (.cond (.v 9)
          (.skip [0, 1, 5])
          (.exit 0 [0, 1])))
        (.seq
         (.block 1
          (.seq
           (.region [(15, 0, false), (12, 0, false)] [] [0, 1, 5] false [
             (none, .mv 12 (.v 0)),
             (none, .mv 13 (.v 5)),
             (none, .mv 14 (.v 1)),
             (none, .iadr 15 1 (.v 12) (.v 13)),
             (none, .store 1 (.v 15) (.v 14) .copy)])
           (.region [] [] [0, 1, 5] false [
             (none, .mv 16 (.v 1)),
             (none, .bin 17 .add (.v 16) (.c (.int .i64 1))),
             (none, .asg 1 (.v 17) .copy)])))
         (.region [] [] [0, 1, 5] false [
           (none, .mv 10 (.v 5)),
           (none, .bin 11 .add (.v 10) (.c (.int .i64 1))),
           (none, .asg 5 (.v 11) .copy)]))))))
    (.seq
     (.region [] [] [0, 4] false [
       (none, .mv 18 (.v 1)),
       (none, .asg 4 (.v 18) .copy)])
     (.ret [0, 4]))))⟩
def F409 : PFunc :=
 ⟨[true, false], [.tmp 4],
  (.seq
   (.region [] [] [0, 1] false [
     (none, .asg 4 (.c (.int .i64 0)) .copy)])
   (.seq
    (.seq
     (.region [] [] [0, 1, 5] false [
       (none, .asg 5 (.c (.int .i64 0)) .copy)])
     (.block 0
      (.loop
       (.seq
        (.seq
         (.region [(7, 0, false)] [] [0, 1, 5, 9] false [
           (none, .mv 6 (.v 5)),
           (none, .mv 7 (.v 0)),
           (none, .len 8 false (.v 7)),
           (none, .bin 9 .lss (.v 6) (.v 8))])
         (.cond (.v 9)
          (.skip [0, 1, 5])
          (.exit 0 [0, 1])))
        (.seq
         (.block 1
          (.region [(15, 0, true), (14, 0, false), (12, 0, false)] [] [0, 1, 5] false [
            (none, .mv 12 (.v 0)),
            (none, .mv 13 (.v 5)),
            (none, .iadr 14 1 (.v 12) (.v 13)),
            (none, .load 15 false 1 (.v 14) none),
            (none, .mv 16 (.v 1)),
            (none, .call (some 17) 408 false [((.v 15), true), ((.v 16), false)]),
            (none, .asg 1 (.v 17) .copy)]))
         (.region [] [] [0, 1, 5] false [
           (none, .mv 10 (.v 5)),
           (none, .bin 11 .add (.v 10) (.c (.int .i64 1))),
           (none, .asg 5 (.v 11) .copy)]))))))
    (.seq
     (.region [] [] [0, 4] false [
       (none, .mv 18 (.v 1)),
       (none, .asg 4 (.v 18) .copy)])
     (.ret [0, 4]))))⟩
def F757 : PFunc :=
 ⟨[false], [.tmp 2],
  (.seq
   (.region [] [] [0] false [
     (none, .asg 2 (.c (.bool false)) .copy)])
   (.seq
    (.seq
     (.region [] [] [0, 3] false [
       (none, .asg 3 (.c (.int .i64 0)) .copy)])
     (.block 0
      (.loop
       (.seq
        (.seq
         (.region [] [] [0, 3, 7] false [
           (none, .mv 4 (.v 3)),
           (none, .mv 5 (.v 0)),
           (none, .len 6 true (.v 5)),
           (none, .bin 7 .lss (.v 4) (.v 6))])
         (.cond (.v 7)
          (.skip [0, 3])
          (.exit 0 [0])))
        (.seq
         (.block 1
          (.seq
           (.region [] [] [0, 3, 19] false [
             (none, .mv 10 (.v 0)),
             (none, .mv 11 (.v 3)),
             (none, .idx 12 (.v 10) (.v 11)),
             (none, .bin 13 .neq (.v 12) (.c (.int .u8 48))),
             (none, .mv 14 (.v 13)),
             (some (14, true), .mv 15 (.v 0)),
             (some (14, true), .mv 16 (.v 3)),
             (some (14, true), .idx 17 (.v 15) (.v 16)),
             (some (14, true), .bin 18 .neq (.v 17) (.c (.int .u8 49))),
             (none, .pick 19 (.v 14) (.v 18) (.c (.bool false)))])
           (.cond (.v 19)
            (.seq
             (.region [] [] [2] false [
               (none, .asg 2 (.c (.bool false)) .copy)])
             (.ret [2]))
            (.skip [0, 3]))))
         (.region [] [] [0, 3] false [
           (none, .mv 8 (.v 3)),
           (none, .bin 9 .add (.v 8) (.c (.int .i64 1))),
           (none, .asg 3 (.v 9) .copy)]))))))
    (.seq
     (.region [] [] [2] false [
       (none, .mv 20 (.v 0)),
       (none, .len 21 true (.v 20)),
       (none, .bin 22 .leq (.v 21) (.c (.int .i64 60))),
       (none, .asg 2 (.v 22) .copy)])
     (.ret [2]))))⟩
def F758 : PFunc :=
 ⟨[false], [.tmp 2],
  (.seq
   (.region [] [] [0] false [
     (none, .asg 2 (.c (.sl true 1 [])) .copy)])
   (.seq
    (.region [] [] [0, 3] false [
      (none, .mksl 5 1 (.sl true 1 []) 0 []),
      (none, .asg 3 (.v 5) .move)])
    (.seq
     (.seq
      (.region [] [] [0, 3, 4] false [
        (none, .asg 4 (.c (.int .i64 0)) .copy)])
      (.block 0
       (.loop
        (.seq
         (.seq
          (.region [] [] [0, 3, 4, 9] false [
            (none, .mv 6 (.v 4)),
            (none, .mv 7 (.v 0)),
            (none, .len 8 true (.v 7)),
            (none, .bin 9 .lss (.v 6) (.v 8))])
          (.cond (.v 9)
           (.skip [0, 3, 4])
           (.exit 0 [3])))
         (.seq
          (.block 1
           (.seq
            (.seq
             (.region [] [] [0, 3, 4, 15] false [
               (none, .mv 12 (.v 0)),
               (none, .mv 13 (.v 4)),
               (none, .idx 14 (.v 12) (.v 13)),
               (none, .bin 15 .neq (.v 14) (.c (.int .u8 49)))])
             (.cond (.v 15)
              (.exit 1 [0, 3, 4])
              (.skip [0, 3, 4])))
            (.seq
             (.seq
              (.region [] [] [0, 3, 4, 24] false [
                (none, .mv 16 (.v 4)),
                (none, .bin 17 .eql (.v 16) (.c (.int .i64 0))),
                (none, .mv 18 (.v 17)),
                (some (18, false), .mv 19 (.v 0)),
                (some (18, false), .mv 20 (.v 4)),
                (some (18, false), .bin 21 .sub (.v 20) (.c (.int .i64 1))),
                (some (18, false), .idx 22 (.v 19) (.v 21)),
                (some (18, false), .bin 23 .neq (.v 22) (.c (.int .u8 49))),
                (none, .pick 24 (.v 18) (.c (.bool true)) (.v 23))])
              (.cond (.v 24)
               (.region [(25, 3, false)] [] [0, 3, 4] false [
                 (none, .mv 25 (.v 3)),
                 (none, .mv 26 (.v 4)),
                 (none, .mksl 27 1 (.int .i64 0) 2 [(0, (.v 26), .copy), (1, (.c (.int .i64 0)), .copy)]),
                 (none, .mksl 28 1 (.sl true 1 []) 1 [(0, (.v 27), .move)]),
                 (none, .app 29 1 (.v 25) (.v 28) .move),
                 (none, .asg 3 (.v 29) .move)])
               (.skip [0, 3, 4])))
             (.region [(39, 3, true), (36, 3, true), (35, 3, true), (34, 3, false), (31, 3, false), (30, 3, false)] [] [0, 3, 4] false [
               (none, .mv 30 (.v 3)),
               (none, .mv 31 (.v 3)),
               (none, .len 32 false (.v 31)),
               (none, .bin 33 .sub (.v 32) (.c (.int .i64 1))),
               (none, .iadr 34 1 (.v 30) (.v 33)),
               (none, .load 35 false 1 (.v 34) none),
               (none, .iadr 36 1 (.v 35) (.c (.int .i64 1))),
               (none, .load 37 false 1 (.v 36) none),
               (none, .bin 38 .add (.v 37) (.c (.int .i64 1))),
               (none, .iadr 39 1 (.v 35) (.c (.int .i64 1))),
               (none, .store 1 (.v 39) (.v 38) .copy)]))))
          (.region [] [] [0, 3, 4] false [
            (none, .mv 10 (.v 4)),
            (none, .bin 11 .add (.v 10) (.c (.int .i64 1))),
            (none, .asg 4 (.v 11) .copy)]))))))
     (.seq
      (.region [(40, 3, false)] [] [2] false [
        (none, .mv 40 (.v 3)),
        (none, .asg 2 (.v 40) .move)])
      (.ret [2])))))⟩
def F446 : PFunc :=
 ⟨[false], [.tmp 2, .tmp 3],
  (.seq
   (.region [] [] [0] false [
     (none, .asg 2 (.c (.sl true 1 [])) .copy),
     (none, .asg 3 (.c (.int .i64 0)) .copy)])
   (.seq
    (.seq
     (.region [] [] [0, 6] false [
       (none, .mv 4 (.v 0)),
       (none, .call (some 5) 757 false [((.v 4), false)]),
       (none, .un 6 .not (.v 5))])
     (.cond (.v 6)
      (.seq
       (.region [] [] [2, 3] false [
         (none, .asg 2 (.c (.sl true 1 [])) .copy),
         (none, .asg 3 (.c (.int .i64 1)) .copy)])
       (.ret [2, 3]))
      (.skip [0])))
    (.seq
     (.region [] [] [2, 3] false [
       (none, .mv 7 (.v 0)),
       (none, .call (some 8) 758 false [((.v 7), false)]),
       (none, .asg 2 (.v 8) .move),
       (none, .asg 3 (.c (.int .i64 0)) .copy)])
     (.ret [2, 3]))))⟩
def F337 : PFunc :=
 ⟨[false], [.tmp 2],
  (.seq
   (.region [] [] [0] false [
     (none, .asg 2 (.c (.bool false)) .copy)])
   (.seq
    (.seq
     (.region [] [] [0, 13] false [
       (none, .mv 11 (.v 0)),
       (none, .len 12 true (.v 11)),
       (none, .bin 13 .gtr (.v 12) (.c (.int .i64 1048576)))])
     (.cond (.v 13)
      (.seq
       (.region [] [] [2] false [
         (none, .asg 2 (.c (.bool true)) .copy)])
       (.ret [2]))
      (.skip [0])))
    (.seq
     (.region [] [] [0, 3, 4] false [
       (none, .mv 15 (.v 0)),
       (none, .call (some 16) 446 false [((.v 15), false)]),
       (none, .asg 14 (.v 16) .move),
       (none, .ext 17 (.v 14) 0),
       (none, .extp 18 (.v 14) 1),
       (none, .asg 3 (.v 17) .move),
       (none, .asg 4 (.v 18) .copy)])
     (.seq
      (.region [] [] [0, 3, 4, 5, 6] false [
        (none, .mv 20 (.v 0)),
        (none, .call (some 21) 61 false [((.v 20), false)]),
        (none, .asg 19 (.v 21) .move),
        (none, .ext 22 (.v 19) 0),
        (none, .extp 23 (.v 19) 1),
        (none, .asg 5 (.v 22) .move),
        (none, .asg 6 (.v 23) .copy)])
      (.seq
       (.seq
        (.region [(25, 3, false), (24, 5, false)] [] [0, 3, 4, 5, 32] false [
          (none, .mv 24 (.v 5)),
          (none, .mv 25 (.v 3)),
          (none, .call (some 26) 394 false [((.v 24), false), ((.v 25), false)]),
          (none, .un 27 .not (.v 26)),
          (none, .mv 28 (.v 27)),
          (some (28, false), .mv 29 (.v 6)),
          (some (28, false), .mv 30 (.v 4)),
          (some (28, false), .bin 31 .neq (.v 29) (.v 30)),
          (none, .pick 32 (.v 28) (.c (.bool true)) (.v 31))])
        (.cond (.v 32)
         (.seq
          (.region [] [] [2] false [
            (none, .asg 2 (.c (.bool false)) .copy)])
          (.ret [2]))
         (.skip [0, 3, 4, 5])))
       (.seq
        (.region [] [] [0, 3, 4, 5, 7] false [
          (none, .asg 7 (.c (.int .i64 1)) .copy)])
        (.seq
         (.region [(33, 5, false)] [] [0, 3, 4, 5, 7] false [
           (none, .mv 33 (.v 5)),
           (none, .mv 34 (.v 7)),
           (none, .call (some 35) 409 false [((.v 33), true), ((.v 34), false)]),
           (none, .asg 7 (.v 35) .copy)])
         (.seq
          (.region [] [] [0, 3, 4, 5, 7, 8] false [
            (none, .asg 8 (.c (.int .i64 1)) .copy)])
          (.seq
           (.region [(36, 5, false)] [] [0, 3, 4, 5, 7, 8] false [
             (none, .mv 36 (.v 5)),
             (none, .mv 37 (.v 8)),
             (none, .call (some 38) 406 false [((.v 36), false), ((.v 37), false)]),
             (none, .asg 8 (.v 38) .copy)])
           (.seq
            (.seq
             (.region [] [] [0, 3, 4, 5, 7, 8, 40] false [
               (none, .mv 39 (.v 8)),
               (none, .bin 40 .lss (.v 39) (.c (.int .i64 0)))])
             (.cond (.v 40)
              (.seq
               (.region [] [] [2] false [
                 (none, .asg 2 (.c (.bool false)) .copy)])
               (.ret [2]))
              (.skip [0, 3, 4, 5, 7, 8])))
            (.seq
             (.seq
              (.region [] [] [0, 3, 4, 5, 7, 43] false [
                (none, .mv 41 (.v 8)),
                (none, .mv 42 (.v 7)),
                (none, .bin 43 .neq (.v 41) (.v 42))])
              (.cond (.v 43)
               (.seq
                (.region [] [] [2] false [
                  (none, .asg 2 (.c (.bool false)) .copy)])
                (.ret [2]))
               (.skip [0, 3, 4, 5, 7])))
             (.seq
              (.region [] [] [3, 4, 5, 7, 9, 10] false [
                (none, .mv 45 (.v 0)),
                (none, .call (some 46) 61 false [((.v 45), false)]),
                (none, .asg 44 (.v 46) .move),
                (none, .ext 47 (.v 44) 0),
                (none, .extp 48 (.v 44) 1),
                (none, .asg 9 (.v 47) .move),
                (none, .asg 10 (.v 48) .copy)])
              (.seq
               (.seq
                (.region [(50, 3, false), (49, 9, false)] [] [5, 7, 57] false [
                  (none, .mv 49 (.v 9)),
                  (none, .mv 50 (.v 3)),
                  (none, .call (some 51) 394 false [((.v 49), false), ((.v 50), false)]),
                  (none, .un 52 .not (.v 51)),
                  (none, .mv 53 (.v 52)),
                  (some (53, false), .mv 54 (.v 10)),
                  (some (53, false), .mv 55 (.v 4)),
                  (some (53, false), .bin 56 .neq (.v 54) (.v 55)),
                  (none, .pick 57 (.v 53) (.c (.bool true)) (.v 56))])
                (.cond (.v 57)
                 (.seq
                  (.region [] [] [2] false [
                    (none, .asg 2 (.c (.bool false)) .copy)])
                  (.ret [2]))
                 (.skip [5, 7])))
               (.seq
                (.region [] [] [5, 7, 8] false [
                  (none, .asg 8 (.c (.int .i64 1)) .copy)])
                (.seq
                 (.region [(58, 5, false)] [] [7, 8] false [
                   (none, .mv 58 (.v 5)),
                   (none, .mv 59 (.v 8)),
                   (none, .call (some 60) 406 false [((.v 58), false), ((.v 59), false)]),
                   (none, .asg 8 (.v 60) .copy)])
                 (.seq
                  (.seq
                   (.region [] [] [7, 8, 62] false [
                     (none, .mv 61 (.v 8)),
                     (none, .bin 62 .lss (.v 61) (.c (.int .i64 0)))])
                   (.cond (.v 62)
                    (.seq
                     (.region [] [] [2] false [
                       (none, .asg 2 (.c (.bool false)) .copy)])
                     (.ret [2]))
                    (.skip [7, 8])))
                  (.seq
                   (.seq
                    (.region [] [] [65] false [
                      (none, .mv 63 (.v 8)),
                      (none, .mv 64 (.v 7)),
                      (none, .bin 65 .neq (.v 63) (.v 64))])
                    (.cond (.v 65)
                     (.seq
                      (.region [] [] [2] false [
                        (none, .asg 2 (.c (.bool false)) .copy)])
                      (.ret [2]))
                     (.skip [])))
                   (.seq
                    (.region [] [] [2] false [
                      (none, .asg 2 (.c (.bool true)) .copy)])
                    (.ret [2])))))))))))))))))))⟩
def tabl : List (Nat × PFunc) := [(207, F207), (255, F255), (61, F61), (393, F393), (394, F394), (405, F405), (406, F406), (408, F408), (409, F409), (757, F757), (758, F758), (446, F446), (337, F337)]
def T : Nat → Option PFunc := tabOf tabl
end Go.Vs.G
