/- The functions that the law reaches, in the small language, printed by program. No conditions. -/
import Derived.Test.YtaaoecnfjibfcaaDLTop
import Derived.Test.YtaaoecnfjibfcaaV4
set_option maxRecDepth 100000
open Go Go.Vs
namespace Go.Vs.G
def F830 : PFunc :=
 ⟨[false, false], [.tmp 4],
  (.seq
   (.region [] [] [0, 1] false [
     (none, .asg 4 (.c (.int .i64 0)) .copy)])
   (.seq
    (.seq
     (.region [(6, 0, false)] [] [0, 1, 7, 8] false [
       (none, .mv 6 (.v 0)),
       (none, .len 7 false (.v 6)),
       (none, .mv 8 (.c (.int .i64 0)))])
     (.block 0
      (.loop
       (.seq
        (.region [] [] [0, 1, 7, 8, 9] false [
          (none, .bin 9 .lss (.v 8) (.v 7))])
        (.seq
         (.cond (.v 9)
          (.skip [0, 1, 7, 8])
          (.exit 0 []))
         (.seq
          (.block 1
           (.seq
            (.region [] [] [0, 1, 5, 7, 8] false [
              (none, .mv 10 (.v 8)),
              (none, .asg 5 (.v 10) .copy)])
            (.seq
             (.region [(14, 0, false), (12, 0, false)] [] [0, 1, 5, 7, 8, 16] false [
               (none, .mv 11 (.v 1)),
               (none, .mv 12 (.v 0)),
               (none, .mv 13 (.v 5)),
               (none, .iadr 14 1 (.v 12) (.v 13)),
               (none, .load 15 false 1 (.v 14) none),
               (none, .bin 16 .eql (.v 11) (.v 15))])
             (.cond (.v 16)
              (.seq
               (.region [] [] [4] false [
                 (none, .mv 17 (.v 5)),
                 (none, .asg 4 (.v 17) .copy)])
               (.ret [4]))
              (.skip [0, 1, 7, 8])))))
          (.region [] [] [0, 1, 7, 8] false [
            (none, .bin 18 .add (.v 8) (.c (.int .i64 1))),
            (none, .mv 8 (.v 18))])))))))
    (.seq
     (.region [] [] [4] false [
       (none, .asg 4 (.c (.int .i64 (-1))) .copy)])
     (.ret [4]))))⟩
def F250 : PFunc :=
 ⟨[false, false], [.tmp 4],
  (.seq
   (.region [] [] [0, 1] false [
     (none, .asg 4 (.c (.sl true 1 [])) .copy)])
   (.seq
    (.region [] [] [0, 5, 6] true [
      (none, .mksl 13 1 (.int .i64 0) 0 []),
      (none, .mv 14 (.v 1)),
      (none, .make 15 1 (.int .u8 0) (.v 14)),
      (none, .asg 5 (.v 13) .move),
      (none, .asg 6 (.v 15) .move)])
    (.seq
     (.seq
      (.region [] [] [0, 5, 6, 17, 18] false [
        (none, .mv 16 (.v 0)),
        (none, .len 17 true (.v 16)),
        (none, .mv 18 (.c (.int .i64 0)))])
      (.block 0
       (.loop
        (.seq
         (.region [] [] [0, 5, 6, 17, 18, 19] false [
           (none, .bin 19 .lss (.v 18) (.v 17))])
         (.seq
          (.cond (.v 19)
           (.skip [0, 5, 6, 17, 18])
           (.exit 0 [5]))
          (.seq
           (.block 1
            (.seq
             (.region [] [] [0, 5, 6, 7, 17, 18] false [
               (none, .mv 20 (.v 18)),
               (none, .asg 7 (.v 20) .copy)])
             (.seq
              (.region [(21, 6, false)] [] [0, 5, 6, 7, 8, 17, 18] false [
                (none, .mv 21 (.v 6)),
                (none, .mv 22 (.v 0)),
                (none, .mv 23 (.v 7)),
                (none, .idx 24 (.v 22) (.v 23)),
                (none, .call (some 25) 830 false [((.v 21), false), ((.v 24), false)]),
                (none, .asg 8 (.v 25) .copy)])
              (.seq
               (.seq
                (.region [] [] [0, 5, 6, 7, 8, 17, 18, 27] false [
                  (none, .mv 26 (.v 8)),
                  (none, .bin 27 .lss (.v 26) (.c (.int .i64 0)))])
                (.cond (.v 27)
                 (.region [(28, 6, false)] [] [0, 5, 6, 7, 8, 17, 18] false [
                   (none, .mv 28 (.v 6)),
                   (none, .call (some 29) 830 false [((.v 28), false), ((.c (.int .u8 0)), false)]),
                   (none, .asg 8 (.v 29) .copy)])
                 (.skip [0, 5, 6, 7, 8, 17, 18])))
               (.seq
                (.seq
                 (.region [] [] [0, 5, 6, 7, 8, 17, 18, 31] false [
                   (none, .mv 30 (.v 8)),
                   (none, .bin 31 .lss (.v 30) (.c (.int .i64 0)))])
                 (.cond (.v 31)
                  (.seq
                   (.region [] [] [0, 5, 6, 7, 8, 17, 18] false [
                     (none, .asg 8 (.c (.int .i64 0)) .copy)])
                   (.seq
                    (.region [] [] [0, 5, 6, 7, 8, 9, 17, 18] false [
                      (none, .asg 9 (.c (.int .i64 (-1))) .copy)])
                    (.seq
                     (.region [(32, 6, false)] [] [0, 5, 6, 7, 8, 9, 17, 18, 32, 33, 34] false [
                       (none, .mv 32 (.v 6)),
                       (none, .len 33 false (.v 32)),
                       (none, .mv 34 (.c (.int .i64 0)))])
                     (.block 2
                      (.loop
                       (.seq
                        (.region [(32, 6, false)] [] [0, 5, 6, 7, 8, 9, 17, 18, 32, 33, 34, 35] false [
                          (none, .bin 35 .lss (.v 34) (.v 33))])
                        (.seq
                         (.cond (.v 35)
                          (.skip [0, 5, 6, 7, 8, 9, 17, 18, 32, 33, 34])
                          (.exit 2 [0, 5, 6, 7, 8, 17, 18]))
                         (.seq
                          (.block 3
                           (.seq
                            (.region [(37, 6, false), (32, 6, false)] [] [0, 5, 6, 7, 8, 9, 10, 11, 17, 18, 32, 33, 34] false [
                              (none, .mv 36 (.v 34)),
                              (none, .iadr 37 1 (.v 32) (.v 34)),
                              (none, .load 38 false 1 (.v 37) none),
                              (none, .asg 10 (.v 36) .copy),
                              (none, .asg 11 (.v 38) .copy)])
                            (.seq
                             (.region [(32, 6, false)] [] [0, 5, 6, 7, 8, 9, 10, 12, 17, 18, 32, 33, 34] false [
                               (none, .mv 39 (.v 0)),
                               (none, .mv 40 (.v 7)),
                               (none, .slc 41 true 0 (.v 39) (some (.v 40)) none .copy),
                               (none, .mv 42 (.v 11)),
                               (none, .call (some 43) 873 false [((.v 41), false), ((.v 42), false)]),
                               (none, .asg 12 (.v 43) .copy)])
                             (.seq
                              (.seq
                               (.region [(32, 6, false)] [] [0, 5, 6, 7, 8, 9, 10, 12, 17, 18, 32, 33, 34, 45] false [
                                 (none, .mv 44 (.v 12)),
                                 (none, .bin 45 .lss (.v 44) (.c (.int .i64 0)))])
                               (.cond (.v 45)
                                (.seq
                                 (.region [] [] [0, 5, 6, 7, 8, 17, 18] false [
                                   (none, .mv 46 (.v 10)),
                                   (none, .asg 8 (.v 46) .copy)])
                                 (.exit 2 [0, 5, 6, 7, 8, 17, 18]))
                                (.skip [0, 5, 6, 7, 8, 9, 10, 12, 17, 18, 32, 33, 34])))
                              (.seq
                               (.region [(32, 6, false)] [] [0, 5, 6, 7, 8, 9, 10, 12, 17, 18, 32, 33, 34, 49] false [
                                 (none, .mv 47 (.v 12)),
                                 (none, .mv 48 (.v 9)),
                                 (none, .bin 49 .gtr (.v 47) (.v 48))])
                               (.cond (.v 49)
                                (.region [(32, 6, false)] [] [0, 5, 6, 7, 8, 9, 17, 18, 32, 33, 34] false [
                                  (none, .mv 50 (.v 10)),
                                  (none, .mv 51 (.v 12)),
                                  (none, .asg 8 (.v 50) .copy),
                                  (none, .asg 9 (.v 51) .copy)])
                                (.skip [0, 5, 6, 7, 8, 9, 17, 18, 32, 33, 34])))))))
                          (.region [(32, 6, false)] [] [0, 5, 6, 7, 8, 9, 17, 18, 32, 33, 34] false [
                            (none, .bin 52 .add (.v 34) (.c (.int .i64 1))),
                            (none, .mv 34 (.v 52))])))))))))
                  (.skip [0, 5, 6, 7, 8, 17, 18])))
                (.seq
                 (.region [(58, 6, false), (53, 6, false)] [] [0, 5, 6, 8, 17, 18] false [
                   (none, .mv 53 (.v 6)),
                   (none, .mv 54 (.v 8)),
                   (none, .mv 55 (.v 0)),
                   (none, .mv 56 (.v 7)),
                   (none, .idx 57 (.v 55) (.v 56)),
                   (none, .iadr 58 1 (.v 53) (.v 54)),
                   (none, .store 1 (.v 58) (.v 57) .copy)])
                 (.region [(59, 5, false)] [] [0, 5, 6, 17, 18] false [
                   (none, .mv 59 (.v 5)),
                   (none, .mv 60 (.v 8)),
                   (none, .mksl 61 1 (.int .i64 0) 1 [(0, (.v 60), .copy)]),
                   (none, .app 62 1 (.v 59) (.v 61) .move),
                   (none, .asg 5 (.v 62) .move)])))))))
           (.region [] [] [0, 5, 6, 17, 18] false [
             (none, .bin 63 .add (.v 18) (.c (.int .i64 1))),
             (none, .mv 18 (.v 63))])))))))
     (.seq
      (.region [(64, 5, false)] [] [4] false [
        (none, .mv 64 (.v 5)),
        (none, .asg 4 (.v 64) .move)])
      (.ret [4])))))⟩
def F277 : PFunc :=
 ⟨[false, false], [.tmp 4],
  (.seq
   (.region [] [] [0, 1] false [
     (none, .asg 4 (.c (.bool false)) .copy)])
   (.seq
    (.seq
     (.region [] [] [0, 1, 5] false [
       (none, .asg 5 (.c (.int .i64 0)) .copy)])
     (.block 0
      (.loop
       (.seq
        (.seq
         (.region [] [] [0, 1, 5, 9] false [
           (none, .mv 6 (.v 5)),
           (none, .mv 7 (.v 0)),
           (none, .len 8 true (.v 7)),
           (none, .bin 9 .lss (.v 6) (.v 8))])
         (.cond (.v 9)
          (.skip [0, 1, 5])
          (.exit 0 [0, 1])))
        (.seq
         (.block 1
          (.seq
           (.region [] [] [0, 1, 5, 21] false [
             (none, .mv 12 (.v 0)),
             (none, .mv 13 (.v 5)),
             (none, .idx 14 (.v 12) (.v 13)),
             (none, .bin 15 .lss (.v 14) (.c (.int .u8 97))),
             (none, .mv 16 (.v 15)),
             (some (16, false), .mv 17 (.v 0)),
             (some (16, false), .mv 18 (.v 5)),
             (some (16, false), .idx 19 (.v 17) (.v 18)),
             (some (16, false), .bin 20 .gtr (.v 19) (.c (.int .u8 122))),
             (none, .pick 21 (.v 16) (.c (.bool true)) (.v 20))])
           (.cond (.v 21)
            (.seq
             (.region [] [] [4] false [
               (none, .asg 4 (.c (.bool false)) .copy)])
             (.ret [4]))
            (.skip [0, 1, 5]))))
         (.region [] [] [0, 1, 5] false [
           (none, .mv 10 (.v 5)),
           (none, .bin 11 .add (.v 10) (.c (.int .i64 1))),
           (none, .asg 5 (.v 11) .copy)]))))))
    (.seq
     (.region [] [] [4] false [
       (none, .mv 22 (.v 0)),
       (none, .len 23 true (.v 22)),
       (none, .bin 24 .geq (.v 23) (.c (.int .i64 1))),
       (none, .mv 25 (.v 24)),
       (some (25, true), .mv 26 (.v 0)),
       (some (25, true), .len 27 true (.v 26)),
       (some (25, true), .mv 28 (.v 1)),
       (some (25, true), .bin 29 .leq (.v 27) (.v 28)),
       (none, .pick 30 (.v 25) (.v 29) (.c (.bool false))),
       (none, .asg 4 (.v 30) .copy)])
     (.ret [4]))))⟩
def F229 : PFunc :=
 ⟨[false], [.tmp 2],
  (.seq
   (.region [] [] [0] false [
     (none, .asg 2 (.c (.bool false)) .copy)])
   (.seq
    (.region [] [] [2] false [
      (none, .mv 3 (.v 0)),
      (none, .bin 4 .eql (.v 3) (.c (.str []))),
      (none, .mv 5 (.v 4)),
      (some (5, false), .mv 6 (.v 0)),
      (some (5, false), .call (some 7) 277 false [((.v 6), false), ((.c (.int .i64 40)), false)]),
      (none, .pick 8 (.v 5) (.c (.bool true)) (.v 7)),
      (none, .asg 2 (.v 8) .copy)])
    (.ret [2])))⟩
def F326 : PFunc :=
 ⟨[false, false, false], [.tmp 6],
  (.seq
   (.region [] [] [0, 1, 2] false [
     (none, .asg 6 (.c (.bool false)) .copy)])
   (.seq
    (.region [] [] [6] false [
      (none, .mv 7 (.v 0)),
      (none, .mv 8 (.v 1)),
      (none, .bin 9 .geq (.v 7) (.v 8)),
      (none, .mv 10 (.v 9)),
      (some (10, true), .mv 11 (.v 0)),
      (some (10, true), .mv 12 (.v 2)),
      (some (10, true), .bin 13 .leq (.v 11) (.v 12)),
      (none, .pick 14 (.v 10) (.v 13) (.c (.bool false))),
      (none, .asg 6 (.v 14) .copy)])
    (.ret [6])))⟩
def F307 : PFunc :=
 ⟨[false, false], [.tmp 4],
  (.seq
   (.region [] [] [0, 1] false [
     (none, .asg 4 (.c (.int .i64 0)) .copy)])
   (.seq
    (.block 0
     (.seq
      (.region [] [] [1, 5] false [
        (none, .mv 6 (.v 0)),
        (none, .call (some 7) 229 false [((.v 6), false)]),
        (none, .un 8 .not (.v 7)),
        (none, .asg 5 (.v 8) .copy)])
      (.cond (.v 5)
       (.seq
        (.region [] [] [4] false [
          (none, .asg 4 (.c (.int .i64 1)) .copy)])
        (.ret [4]))
       (.seq
        (.region [] [] [9] false [
          (none, .mv 10 (.v 1)),
          (none, .call (some 11) 326 false [((.v 10), false), ((.c (.int .i64 1)), false), ((.c (.int .i64 6)), false)]),
          (none, .un 12 .not (.v 11)),
          (none, .asg 9 (.v 12) .copy)])
        (.cond (.v 9)
         (.seq
          (.region [] [] [4] false [
            (none, .asg 4 (.c (.int .i64 2)) .copy)])
          (.ret [4]))
         (.skip []))))))
    (.seq
     (.region [] [] [4] false [
       (none, .asg 4 (.c (.int .i64 0)) .copy)])
     (.ret [4]))))⟩
def F51 : PFunc :=
 ⟨[false, false], [.tmp 4, .tmp 5],
  (.seq
   (.region [] [] [0, 1] false [
     (none, .asg 4 (.c (.sl true 1 [])) .copy),
     (none, .asg 5 (.c (.int .i64 0)) .copy)])
   (.seq
    (.seq
     (.region [] [] [0, 1, 6] false [
       (none, .mv 7 (.v 0)),
       (none, .mv 8 (.v 1)),
       (none, .call (some 9) 307 false [((.v 7), false), ((.v 8), false)]),
       (none, .asg 6 (.v 9) .copy)])
     (.seq
      (.region [] [] [0, 1, 6, 11] false [
        (none, .mv 10 (.v 6)),
        (none, .bin 11 .neq (.v 10) (.c (.int .i64 0)))])
      (.cond (.v 11)
       (.seq
        (.region [] [] [4, 5] false [
          (none, .mv 12 (.v 6)),
          (none, .asg 4 (.c (.sl true 1 [])) .copy),
          (none, .asg 5 (.v 12) .copy)])
        (.ret [4, 5]))
       (.skip [0, 1]))))
    (.seq
     (.region [] [] [4, 5] false [
       (none, .mv 13 (.v 0)),
       (none, .mv 14 (.v 1)),
       (none, .call (some 15) 250 false [((.v 13), false), ((.v 14), false)]),
       (none, .asg 4 (.v 15) .move),
       (none, .asg 5 (.c (.int .i64 0)) .copy)])
     (.ret [4, 5]))))⟩
def F222 : PFunc :=
 ⟨[false], [.tmp 2],
  (.seq
   (.region [] [] [0] false [
     (none, .asg 2 (.c (.bool false)) .copy)])
   (.seq
    (.region [] [] [2] false [
      (none, .mv 3 (.v 0)),
      (none, .call (some 4) 277 false [((.v 3), false), ((.c (.int .i64 24)), false)]),
      (none, .asg 2 (.v 4) .copy)])
    (.ret [2])))⟩
def F294 : PFunc :=
 ⟨[false, false, false], [.tmp 6],
  (.seq
   (.region [] [] [0, 1, 2] false [
     (none, .asg 6 (.c (.int .i64 0)) .copy)])
   (.seq
    (.region [] [] [6] false [
      (none, .mv 7 (.v 2)),
      (none, .bin 8 .mul (.c (.int .i64 2)) (.v 7)),
      (none, .mv 9 (.v 0)),
      (none, .bin 10 .mul (.v 8) (.v 9)),
      (none, .mv 11 (.v 1)),
      (none, .bin 12 .add (.v 10) (.v 11)),
      (none, .mv 13 (.v 1)),
      (none, .bin 14 .mul (.c (.int .i64 2)) (.v 13)),
      (none, .bin 15 .quo (.v 12) (.v 14)),
      (none, .asg 6 (.v 15) .copy)])
    (.ret [6])))⟩
def F304 : PFunc :=
 ⟨[false, false], [.tmp 4],
  (.seq
   (.region [] [] [0, 1] false [
     (none, .asg 4 (.c (.sl true 1 [])) .copy)])
   (.seq
    (.region [] [] [0, 1, 5] false [
      (none, .mksl 7 1 (.int .i64 0) 0 []),
      (none, .asg 5 (.v 7) .move)])
    (.seq
     (.seq
      (.region [] [] [0, 1, 5, 8, 9] false [
        (none, .mv 8 (.v 1)),
        (none, .mv 9 (.c (.int .i64 0)))])
      (.block 0
       (.loop
        (.seq
         (.region [] [] [0, 1, 5, 8, 9, 10] false [
           (none, .bin 10 .lss (.v 9) (.v 8))])
         (.seq
          (.cond (.v 10)
           (.skip [0, 1, 5, 8, 9])
           (.exit 0 [5]))
          (.seq
           (.block 1
            (.seq
             (.region [] [] [0, 1, 5, 6, 8, 9] false [
               (none, .mv 11 (.v 9)),
               (none, .asg 6 (.v 11) .copy)])
             (.region [(12, 5, false)] [] [0, 1, 5, 8, 9] false [
               (none, .mv 12 (.v 5)),
               (none, .mv 13 (.v 0)),
               (none, .mv 14 (.v 1)),
               (none, .mv 15 (.v 6)),
               (none, .call (some 16) 294 false [((.v 13), false), ((.v 14), false), ((.v 15), false)]),
               (none, .mv 17 (.v 0)),
               (none, .bin 18 .rem (.v 16) (.v 17)),
               (none, .mksl 19 1 (.int .i64 0) 1 [(0, (.v 18), .copy)]),
               (none, .app 20 1 (.v 12) (.v 19) .move),
               (none, .asg 5 (.v 20) .move)])))
           (.region [] [] [0, 1, 5, 8, 9] false [
             (none, .bin 21 .add (.v 9) (.c (.int .i64 1))),
             (none, .mv 9 (.v 21))])))))))
     (.seq
      (.region [(22, 5, false)] [] [4] false [
        (none, .mv 22 (.v 5)),
        (none, .asg 4 (.v 22) .move)])
      (.ret [4])))))⟩
def F261 : PFunc :=
 ⟨[false, false], [.tmp 4, .tmp 5],
  (.seq
   (.region [] [] [0, 1] false [
     (none, .asg 4 (.c (.str [])) .copy),
     (none, .asg 5 (.c (.bool false)) .copy)])
   (.seq
    (.region [] [] [0, 1, 6] false [
      (none, .mv 10 (.v 1)),
      (none, .make 11 1 (.int .u8 0) (.v 10)),
      (none, .asg 6 (.v 11) .move)])
    (.seq
     (.seq
      (.region [] [] [0, 6, 15, 16, 17] false [
        (none, .mv 12 (.v 1)),
        (none, .mv 13 (.v 0)),
        (none, .len 14 true (.v 13)),
        (none, .call (some 15) 304 false [((.v 12), false), ((.v 14), false)]),
        (none, .len 16 false (.v 15)),
        (none, .mv 17 (.c (.int .i64 0)))])
      (.block 0
       (.loop
        (.seq
         (.region [] [] [0, 6, 15, 16, 17, 18] false [
           (none, .bin 18 .lss (.v 17) (.v 16))])
         (.seq
          (.cond (.v 18)
           (.skip [0, 6, 15, 16, 17])
           (.exit 0 [6]))
          (.seq
           (.block 1
            (.seq
             (.region [(20, 15, false)] [] [0, 6, 7, 8, 15, 16, 17] false [
               (none, .mv 19 (.v 17)),
               (none, .iadr 20 1 (.v 15) (.v 17)),
               (none, .load 21 false 1 (.v 20) none),
               (none, .asg 7 (.v 19) .copy),
               (none, .asg 8 (.v 21) .copy)])
             (.seq
              (.seq
               (.region [(30, 6, false), (28, 6, false), (24, 6, false), (22, 6, false)] [] [0, 6, 7, 8, 15, 16, 17, 36] true [
                 (none, .mvr 22 6),
                 (none, .mv 23 (.v 8)),
                 (none, .iadr 24 1 (.v 22) (.v 23)),
                 (none, .load 25 false 1 (.v 24) none),
                 (none, .bin 26 .neq (.v 25) (.c (.int .u8 0))),
                 (none, .mv 27 (.v 26)),
                 (some (27, true), .mvr 28 6),
                 (some (27, true), .mv 29 (.v 8)),
                 (some (27, true), .iadr 30 1 (.v 28) (.v 29)),
                 (some (27, true), .load 31 false 1 (.v 30) none),
                 (some (27, true), .mv 32 (.v 0)),
                 (some (27, true), .mv 33 (.v 7)),
                 (some (27, true), .idx 34 (.v 32) (.v 33)),
                 (some (27, true), .bin 35 .neq (.v 31) (.v 34)),
                 (none, .pick 36 (.v 27) (.v 35) (.c (.bool false)))])
               (.cond (.v 36)
                (.seq
                 (.region [] [] [4, 5] false [
                   (none, .asg 4 (.c (.str [])) .copy),
                   (none, .asg 5 (.c (.bool false)) .copy)])
                 (.ret [4, 5]))
                (.skip [0, 6, 7, 8, 15, 16, 17])))
              (.region [(42, 6, false), (37, 6, false)] [] [0, 6, 15, 16, 17] false [
                (none, .mv 37 (.v 6)),
                (none, .mv 38 (.v 8)),
                (none, .mv 39 (.v 0)),
                (none, .mv 40 (.v 7)),
                (none, .idx 41 (.v 39) (.v 40)),
                (none, .iadr 42 1 (.v 37) (.v 38)),
                (none, .store 1 (.v 42) (.v 41) .copy)]))))
           (.region [] [] [0, 6, 15, 16, 17] false [
             (none, .bin 43 .add (.v 17) (.c (.int .i64 1))),
             (none, .mv 17 (.v 43))])))))))
     (.seq
      (.seq
       (.region [] [] [6, 9] false [
         (none, .asg 9 (.c (.int .i64 1)) .copy)])
       (.block 2
        (.loop
         (.seq
          (.seq
           (.region [(45, 6, false)] [] [6, 9, 47] false [
             (none, .mv 44 (.v 9)),
             (none, .mv 45 (.v 6)),
             (none, .len 46 false (.v 45)),
             (none, .bin 47 .lss (.v 44) (.v 46))])
           (.cond (.v 47)
            (.skip [6, 9])
            (.exit 2 [6])))
          (.seq
           (.block 3
            (.seq
             (.region [(52, 6, false), (50, 6, false)] [] [6, 9, 54] false [
               (none, .mv 50 (.v 6)),
               (none, .mv 51 (.v 9)),
               (none, .iadr 52 1 (.v 50) (.v 51)),
               (none, .load 53 false 1 (.v 52) none),
               (none, .bin 54 .eql (.v 53) (.c (.int .u8 0)))])
             (.cond (.v 54)
              (.region [(62, 6, false), (60, 6, false), (57, 6, false), (55, 6, false)] [] [6, 9] false [
                (none, .mv 55 (.v 6)),
                (none, .mv 56 (.v 9)),
                (none, .mv 57 (.v 6)),
                (none, .mv 58 (.v 9)),
                (none, .bin 59 .sub (.v 58) (.c (.int .i64 1))),
                (none, .iadr 60 1 (.v 57) (.v 59)),
                (none, .load 61 false 1 (.v 60) none),
                (none, .iadr 62 1 (.v 55) (.v 56)),
                (none, .store 1 (.v 62) (.v 61) .copy)])
              (.skip [6, 9]))))
           (.region [] [] [6, 9] false [
             (none, .mv 48 (.v 9)),
             (none, .bin 49 .add (.v 48) (.c (.int .i64 1))),
             (none, .asg 9 (.v 49) .copy)]))))))
      (.seq
       (.region [(63, 6, false)] [] [4, 5] false [
         (none, .mv 63 (.v 6)),
         (none, .b2s 64 (.v 63)),
         (none, .asg 4 (.v 64) .copy),
         (none, .asg 5 (.c (.bool true)) .copy)])
       (.ret [4, 5]))))))⟩
def F73 : PFunc :=
 ⟨[false, false], [.tmp 4, .tmp 5],
  (.seq
   (.region [] [] [0, 1] false [
     (none, .asg 4 (.c (.str [])) .copy),
     (none, .asg 5 (.c (.int .i64 0)) .copy)])
   (.seq
    (.block 0
     (.seq
      (.region [] [] [0, 1, 8] false [
        (none, .mv 9 (.v 0)),
        (none, .call (some 10) 222 false [((.v 9), false)]),
        (none, .un 11 .not (.v 10)),
        (none, .asg 8 (.v 11) .copy)])
      (.cond (.v 8)
       (.seq
        (.region [] [] [4, 5] false [
          (none, .asg 4 (.c (.str [])) .copy),
          (none, .asg 5 (.c (.int .i64 1)) .copy)])
        (.ret [4, 5]))
       (.seq
        (.region [] [] [0, 1, 12] false [
          (none, .mv 13 (.v 1)),
          (none, .call (some 14) 326 false [((.v 13), false), ((.c (.int .i64 1)), false), ((.c (.int .i64 24)), false)]),
          (none, .un 15 .not (.v 14)),
          (none, .asg 12 (.v 15) .copy)])
        (.cond (.v 12)
         (.seq
          (.region [] [] [4, 5] false [
            (none, .asg 4 (.c (.str [])) .copy),
            (none, .asg 5 (.c (.int .i64 2)) .copy)])
          (.ret [4, 5]))
         (.skip [0, 1]))))))
    (.seq
     (.region [] [] [6, 7] false [
       (none, .mv 17 (.v 0)),
       (none, .mv 18 (.v 1)),
       (none, .call (some 19) 261 false [((.v 17), false), ((.v 18), false)]),
       (none, .asg 16 (.v 19) .copy),
       (none, .extp 20 (.v 16) 0),
       (none, .extp 21 (.v 16) 1),
       (none, .asg 6 (.v 20) .copy),
       (none, .asg 7 (.v 21) .copy)])
     (.seq
      (.seq
       (.region [] [] [6, 23] false [
         (none, .mv 22 (.v 7)),
         (none, .un 23 .not (.v 22))])
       (.cond (.v 23)
        (.seq
         (.region [] [] [4, 5] false [
           (none, .asg 4 (.c (.str [])) .copy),
           (none, .asg 5 (.c (.int .i64 9)) .copy)])
         (.ret [4, 5]))
        (.skip [6])))
      (.seq
       (.region [] [] [4, 5] false [
         (none, .mv 24 (.v 6)),
         (none, .asg 4 (.v 24) .copy),
         (none, .asg 5 (.c (.int .i64 0)) .copy)])
       (.ret [4, 5]))))))⟩
def F290 : PFunc :=
 ⟨[false, false, false], [.tmp 6],
  (.seq
   (.region [] [] [0, 1, 2] false [
     (none, .asg 6 (.c (.int .i64 0)) .copy)])
   (.seq
    (.region [] [] [0, 2, 7, 8] false [
      (none, .mv 11 (.v 1)),
      (none, .make 12 1 (.int .u8 0) (.v 11)),
      (none, .asg 7 (.v 12) .move),
      (none, .asg 8 (.c (.int .i64 0)) .copy)])
    (.seq
     (.seq
      (.region [(13, 2, false)] [] [0, 2, 7, 8, 13, 14, 15] false [
        (none, .mv 13 (.v 2)),
        (none, .len 14 false (.v 13)),
        (none, .mv 15 (.c (.int .i64 0)))])
      (.block 0
       (.loop
        (.seq
         (.region [(13, 2, false)] [] [0, 2, 7, 8, 13, 14, 15, 16] false [
           (none, .bin 16 .lss (.v 15) (.v 14))])
         (.seq
          (.cond (.v 16)
           (.skip [0, 2, 7, 8, 13, 14, 15])
           (.exit 0 [8]))
          (.seq
           (.block 1
            (.seq
             (.region [(18, 2, false), (13, 2, false)] [] [0, 2, 7, 8, 9, 10, 13, 14, 15] false [
               (none, .mv 17 (.v 15)),
               (none, .iadr 18 1 (.v 13) (.v 15)),
               (none, .load 19 false 1 (.v 18) none),
               (none, .asg 9 (.v 17) .copy),
               (none, .asg 10 (.v 19) .copy)])
             (.seq
              (.region [(22, 7, false), (20, 7, false), (13, 2, false)] [] [0, 2, 7, 8, 9, 10, 13, 14, 15, 27] true [
                (none, .mvr 20 7),
                (none, .mv 21 (.v 10)),
                (none, .iadr 22 1 (.v 20) (.v 21)),
                (none, .load 23 false 1 (.v 22) none),
                (none, .mv 24 (.v 0)),
                (none, .mv 25 (.v 9)),
                (none, .idx 26 (.v 24) (.v 25)),
                (none, .bin 27 .neq (.v 23) (.v 26))])
              (.cond (.v 27)
               (.seq
                (.region [(33, 7, false), (28, 7, false), (13, 2, false)] [] [0, 2, 7, 8, 13, 14, 15] false [
                  (none, .mv 28 (.v 7)),
                  (none, .mv 29 (.v 10)),
                  (none, .mv 30 (.v 0)),
                  (none, .mv 31 (.v 9)),
                  (none, .idx 32 (.v 30) (.v 31)),
                  (none, .iadr 33 1 (.v 28) (.v 29)),
                  (none, .store 1 (.v 33) (.v 32) .copy)])
                (.region [(13, 2, false)] [] [0, 2, 7, 8, 13, 14, 15] false [
                  (none, .mv 34 (.v 8)),
                  (none, .bin 35 .add (.v 34) (.c (.int .i64 1))),
                  (none, .asg 8 (.v 35) .copy)]))
               (.skip [0, 2, 7, 8, 13, 14, 15])))))
           (.region [(13, 2, false)] [] [0, 2, 7, 8, 13, 14, 15] false [
             (none, .bin 36 .add (.v 15) (.c (.int .i64 1))),
             (none, .mv 15 (.v 36))])))))))
     (.seq
      (.region [] [] [6] false [
        (none, .mv 37 (.v 8)),
        (none, .asg 6 (.v 37) .copy)])
      (.ret [6])))))⟩
def F90 : PFunc :=
 ⟨[false, false], [.tmp 4, .tmp 5],
  (.seq
   (.region [] [] [0, 1] false [
     (none, .asg 4 (.c (.int .i64 0)) .copy),
     (none, .asg 5 (.c (.int .i64 0)) .copy)])
   (.seq
    (.seq
     (.region [] [] [0, 1, 6] false [
       (none, .mv 7 (.v 0)),
       (none, .mv 8 (.v 1)),
       (none, .call (some 9) 307 false [((.v 7), false), ((.v 8), false)]),
       (none, .asg 6 (.v 9) .copy)])
     (.seq
      (.region [] [] [0, 1, 6, 11] false [
        (none, .mv 10 (.v 6)),
        (none, .bin 11 .neq (.v 10) (.c (.int .i64 0)))])
      (.cond (.v 11)
       (.seq
        (.region [] [] [4, 5] false [
          (none, .mv 12 (.v 6)),
          (none, .asg 4 (.c (.int .i64 0)) .copy),
          (none, .asg 5 (.v 12) .copy)])
        (.ret [4, 5]))
       (.skip [0, 1]))))
    (.seq
     (.region [] [] [4, 5] false [
       (none, .mv 13 (.v 0)),
       (none, .mv 14 (.v 1)),
       (none, .mv 15 (.v 0)),
       (none, .mv 16 (.v 1)),
       (none, .call (some 17) 250 false [((.v 15), false), ((.v 16), false)]),
       (none, .call (some 18) 290 false [((.v 13), false), ((.v 14), false), ((.v 17), false)]),
       (none, .asg 4 (.v 18) .copy),
       (none, .asg 5 (.c (.int .i64 0)) .copy)])
     (.ret [4, 5]))))⟩
def F91 : PFunc :=
 ⟨[false], [.tmp 2, .tmp 3],
  (.seq
   (.region [] [] [0] false [
     (none, .asg 2 (.c (.int .i64 0)) .copy),
     (none, .asg 3 (.c (.int .i64 0)) .copy)])
   (.seq
    (.seq
     (.region [] [] [0, 9] false [
       (none, .mv 7 (.v 0)),
       (none, .call (some 8) 222 false [((.v 7), false)]),
       (none, .un 9 .not (.v 8))])
     (.cond (.v 9)
      (.seq
       (.region [] [] [2, 3] false [
         (none, .asg 2 (.c (.int .i64 0)) .copy),
         (none, .asg 3 (.c (.int .i64 1)) .copy)])
       (.ret [2, 3]))
      (.skip [0])))
    (.seq
     (.region [] [] [0, 4] false [
       (none, .asg 4 (.c (.int .i64 1)) .copy)])
     (.seq
      (.block 0
       (.loop
        (.seq
         (.seq
          (.region [] [] [0, 4, 13] false [
            (none, .mv 10 (.v 4)),
            (none, .mv 11 (.v 0)),
            (none, .len 12 true (.v 11)),
            (none, .bin 13 .lss (.v 10) (.v 12))])
          (.cond (.v 13)
           (.skip [0, 4])
           (.exit 0 [4])))
         (.seq
          (.block 1
           (.seq
            (.region [] [] [0, 4, 6] false [
              (none, .mv 17 (.v 0)),
              (none, .mv 18 (.v 4)),
              (none, .call (some 19) 261 false [((.v 17), false), ((.v 18), false)]),
              (none, .asg 16 (.v 19) .copy),
              (none, .extp 20 (.v 16) 0),
              (none, .extp 21 (.v 16) 1),
              (none, .asg 5 (.v 20) .copy),
              (none, .asg 6 (.v 21) .copy)])
            (.seq
             (.region [] [] [0, 4, 22] false [
               (none, .mv 22 (.v 6))])
             (.cond (.v 22)
              (.exit 0 [4])
              (.skip [0, 4])))))
          (.region [] [] [0, 4] false [
            (none, .mv 14 (.v 4)),
            (none, .bin 15 .add (.v 14) (.c (.int .i64 1))),
            (none, .asg 4 (.v 15) .copy)])))))
      (.seq
       (.region [] [] [2, 3] false [
         (none, .mv 23 (.v 4)),
         (none, .asg 2 (.v 23) .copy),
         (none, .asg 3 (.c (.int .i64 0)) .copy)])
       (.ret [2, 3]))))))⟩
def F211 : PFunc :=
 ⟨[false], [.tmp 2],
  (.seq
   (.region [] [] [1] false [
     (none, .box 1 (.v 0) .copy),
     (none, .asg 2 (.c (.bool false)) .copy)])
   (.seq
    (.region [(20, 1, false), (14, 1, false), (8, 1, false), (3, 1, false)] [] [2] false [
      (none, .fadr 3 0 1 (.v 1)),
      (none, .load 4 false 1 (.v 3) none),
      (none, .call (some 5) 326 false [((.v 4), false), ((.c (.int .i64 0)), false), ((.c (.int .i64 10000)), false)]),
      (none, .un 6 .not (.v 5)),
      (none, .mv 7 (.v 6)),
      (some (7, false), .fadr 8 1 1 (.v 1)),
      (some (7, false), .load 9 false 1 (.v 8) none),
      (some (7, false), .call (some 10) 326 false [((.v 9), false), ((.c (.int .i64 1)), false), ((.c (.int .i64 1000)), false)]),
      (some (7, false), .un 11 .not (.v 10)),
      (none, .pick 12 (.v 7) (.c (.bool true)) (.v 11)),
      (none, .mv 13 (.v 12)),
      (some (13, false), .fadr 14 2 1 (.v 1)),
      (some (13, false), .load 15 false 1 (.v 14) none),
      (some (13, false), .call (some 16) 326 false [((.v 15), false), ((.c (.int .i64 1)), false), ((.c (.int .i64 4)), false)]),
      (some (13, false), .un 17 .not (.v 16)),
      (none, .pick 18 (.v 13) (.c (.bool true)) (.v 17)),
      (none, .mv 19 (.v 18)),
      (some (19, false), .fadr 20 3 1 (.v 1)),
      (some (19, false), .load 21 false 1 (.v 20) none),
      (some (19, false), .call (some 22) 326 false [((.v 21), false), ((.c (.int .i64 0)), false), ((.c (.int .i64 6)), false)]),
      (some (19, false), .un 23 .not (.v 22)),
      (none, .pick 24 (.v 19) (.c (.bool true)) (.v 23)),
      (none, .asg 2 (.v 24) .copy)])
    (.ret [2])))⟩
def F822 : PFunc :=
 ⟨[false, false], [.tmp 4],
  (.seq
   (.region [] [] [0, 1] false [
     (none, .asg 4 (.c (.int .i64 0)) .copy)])
   (.seq
    (.seq
     (.region [(6, 0, false)] [] [0, 1, 7, 8] false [
       (none, .mv 6 (.v 0)),
       (none, .len 7 false (.v 6)),
       (none, .mv 8 (.c (.int .i64 0)))])
     (.block 0
      (.loop
       (.seq
        (.region [] [] [0, 1, 7, 8, 9] false [
          (none, .bin 9 .lss (.v 8) (.v 7))])
        (.seq
         (.cond (.v 9)
          (.skip [0, 1, 7, 8])
          (.exit 0 []))
         (.seq
          (.block 1
           (.seq
            (.region [] [] [0, 1, 5, 7, 8] false [
              (none, .mv 10 (.v 8)),
              (none, .asg 5 (.v 10) .copy)])
            (.seq
             (.region [(14, 0, false), (12, 0, false), (11, 1, false)] [] [0, 1, 5, 7, 8, 16] false [
               (none, .mv 11 (.v 1)),
               (none, .mv 12 (.v 0)),
               (none, .mv 13 (.v 5)),
               (none, .iadr 14 4 (.v 12) (.v 13)),
               (none, .load 15 true 4 (.v 14) none),
               (none, .callv (some 16) (.v 11) [(.v 15)])])
             (.cond (.v 16)
              (.seq
               (.region [] [] [4] false [
                 (none, .mv 17 (.v 5)),
                 (none, .asg 4 (.v 17) .copy)])
               (.ret [4]))
              (.skip [0, 1, 7, 8])))))
          (.region [] [] [0, 1, 7, 8] false [
            (none, .bin 18 .add (.v 8) (.c (.int .i64 1))),
            (none, .mv 8 (.v 18))])))))))
    (.seq
     (.region [] [] [4] false [
       (none, .asg 4 (.c (.int .i64 (-1))) .copy)])
     (.ret [4]))))⟩
def F800 : PFunc :=
 ⟨[false, false], [.tmp 4],
  (.seq
   (.region [] [] [0, 1] false [
     (none, .asg 4 (.c (.bool false)) .copy)])
   (.seq
    (.region [(6, 1, false), (5, 0, false)] [] [4] false [
      (none, .mv 5 (.v 0)),
      (none, .mv 6 (.v 1)),
      (none, .call (some 7) 822 false [((.v 5), false), ((.v 6), false)]),
      (none, .bin 8 .geq (.v 7) (.c (.int .i64 0))),
      (none, .asg 4 (.v 8) .copy)])
    (.ret [4])))⟩
def F210 : PFunc :=
 ⟨[false], [.tmp 2],
  (.seq
   (.region [] [] [0] false [
     (none, .asg 2 (.c (.bool false)) .copy)])
   (.seq
    (.region [(7, 0, false), (3, 0, false)] [] [2] false [
      (none, .mv 3 (.v 0)),
      (none, .len 4 false (.v 3)),
      (none, .bin 5 .leq (.v 4) (.c (.int .i64 6))),
      (none, .mv 6 (.v 5)),
      (some (6, true), .mv 7 (.v 0)),
      (some (6, true), .call (some 8) 800 false [((.v 7), false), ((.c (.fn 211 [])), false)]),
      (some (6, true), .un 9 .not (.v 8)),
      (none, .pick 10 (.v 6) (.v 9) (.c (.bool false))),
      (none, .asg 2 (.v 10) .copy)])
    (.ret [2])))⟩
def F260 : PFunc :=
 ⟨[false, false], [.tmp 4],
  (.seq
   (.region [] [] [0, 1] false [
     (none, .asg 4 (.c (.int .i64 0)) .copy)])
   (.seq
    (.block 0
     (.seq
      (.region [(6, 0, false)] [] [1, 5] false [
        (none, .mv 6 (.v 0)),
        (none, .call (some 7) 210 false [((.v 6), false)]),
        (none, .un 8 .not (.v 7)),
        (none, .asg 5 (.v 8) .copy)])
      (.cond (.v 5)
       (.seq
        (.region [] [] [4] false [
          (none, .asg 4 (.c (.int .i64 1)) .copy)])
        (.ret [4]))
       (.seq
        (.region [] [] [9] false [
          (none, .mv 10 (.v 1)),
          (none, .call (some 11) 326 false [((.v 10), false), ((.c (.int .i64 0)), false), ((.c (.int .i64 24)), false)]),
          (none, .un 12 .not (.v 11)),
          (none, .asg 9 (.v 12) .copy)])
        (.cond (.v 9)
         (.seq
          (.region [] [] [4] false [
            (none, .asg 4 (.c (.int .i64 2)) .copy)])
          (.ret [4]))
         (.skip []))))))
    (.seq
     (.region [] [] [4] false [
       (none, .asg 4 (.c (.int .i64 0)) .copy)])
     (.ret [4]))))⟩
def F272 : PFunc :=
 ⟨[false, false], [.tmp 4],
  (.seq
   (.region [] [] [0, 1] false [
     (none, .asg 4 (.c (.int .i64 0)) .copy)])
   (.seq
    (.region [] [] [0, 1, 5] false [
      (none, .asg 5 (.c (.int .i64 0)) .copy)])
    (.seq
     (.seq
      (.region [(8, 0, false)] [] [0, 1, 5, 8, 9, 10] false [
        (none, .mv 8 (.v 0)),
        (none, .len 9 false (.v 8)),
        (none, .mv 10 (.c (.int .i64 0)))])
      (.block 0
       (.loop
        (.seq
         (.region [(8, 0, false)] [] [0, 1, 5, 8, 9, 10, 11] false [
           (none, .bin 11 .lss (.v 10) (.v 9))])
         (.seq
          (.cond (.v 11)
           (.skip [0, 1, 5, 8, 9, 10])
           (.exit 0 [5]))
          (.seq
           (.block 1
            (.seq
             (.region [(12, 0, false), (8, 0, false)] [] [0, 1, 5, 7, 8, 9, 10] false [
               (none, .iadr 12 4 (.v 8) (.v 10)),
               (none, .load 13 true 4 (.v 12) none),
               (none, .new 7 (.agg [(.int .i64 0), (.int .i64 0), (.int .i64 0), (.int .i64 0)])),
               (none, .store 4 (.v 7) (.v 13) .copy)])
             (.seq
              (.region [(22, 7, false), (20, 7, false), (14, 7, false), (8, 0, false)] [] [0, 1, 5, 7, 8, 9, 10, 26] false [
                (none, .fadr 14 0 1 (.v 7)),
                (none, .load 15 false 1 (.v 14) none),
                (none, .mv 16 (.v 1)),
                (none, .bin 17 .leq (.v 15) (.v 16)),
                (none, .mv 18 (.v 17)),
                (some (18, true), .mv 19 (.v 1)),
                (some (18, true), .fadr 20 0 1 (.v 7)),
                (some (18, true), .load 21 false 1 (.v 20) none),
                (some (18, true), .fadr 22 1 1 (.v 7)),
                (some (18, true), .load 23 false 1 (.v 22) none),
                (some (18, true), .bin 24 .add (.v 21) (.v 23)),
                (some (18, true), .bin 25 .lss (.v 19) (.v 24)),
                (none, .pick 26 (.v 18) (.v 25) (.c (.bool false)))])
              (.cond (.v 26)
               (.region [(28, 7, false), (8, 0, false)] [] [0, 1, 5, 8, 9, 10] false [
                 (none, .mv 27 (.v 5)),
                 (none, .fadr 28 2 1 (.v 7)),
                 (none, .load 29 false 1 (.v 28) none),
                 (none, .bin 30 .add (.v 27) (.v 29)),
                 (none, .asg 5 (.v 30) .copy)])
               (.skip [0, 1, 5, 8, 9, 10])))))
           (.region [(8, 0, false)] [] [0, 1, 5, 8, 9, 10] false [
             (none, .bin 31 .add (.v 10) (.c (.int .i64 1))),
             (none, .mv 10 (.v 31))])))))))
     (.seq
      (.region [] [] [4] false [
        (none, .mv 32 (.v 5)),
        (none, .asg 4 (.v 32) .copy)])
      (.ret [4])))))⟩
def F93 : PFunc :=
 ⟨[false, false], [.tmp 4, .tmp 5],
  (.seq
   (.region [] [] [0, 1] false [
     (none, .asg 4 (.c (.int .i64 0)) .copy),
     (none, .asg 5 (.c (.int .i64 0)) .copy)])
   (.seq
    (.seq
     (.region [(10, 0, false)] [] [0, 1, 6] false [
       (none, .mv 10 (.v 0)),
       (none, .mv 11 (.v 1)),
       (none, .call (some 12) 260 false [((.v 10), false), ((.v 11), false)]),
       (none, .asg 6 (.v 12) .copy)])
     (.seq
      (.region [] [] [0, 1, 6, 14] false [
        (none, .mv 13 (.v 6)),
        (none, .bin 14 .neq (.v 13) (.c (.int .i64 0)))])
      (.cond (.v 14)
       (.seq
        (.region [] [] [4, 5] false [
          (none, .mv 15 (.v 6)),
          (none, .asg 4 (.c (.int .i64 0)) .copy),
          (none, .asg 5 (.v 15) .copy)])
        (.ret [4, 5]))
       (.skip [0, 1]))))
    (.seq
     (.region [] [] [0, 1, 7] false [
       (none, .asg 7 (.c (.int .i64 (-1))) .copy)])
     (.seq
      (.seq
       (.region [(16, 0, false)] [] [0, 1, 7, 16, 17, 18] false [
         (none, .mv 16 (.v 0)),
         (none, .len 17 false (.v 16)),
         (none, .mv 18 (.c (.int .i64 0)))])
       (.block 0
        (.loop
         (.seq
          (.region [(16, 0, false)] [] [0, 1, 7, 16, 17, 18, 19] false [
            (none, .bin 19 .lss (.v 18) (.v 17))])
          (.seq
           (.cond (.v 19)
            (.skip [0, 1, 7, 16, 17, 18])
            (.exit 0 [7]))
           (.seq
            (.block 1
             (.seq
              (.region [(20, 0, false), (16, 0, false)] [] [0, 1, 7, 9, 16, 17, 18] false [
                (none, .iadr 20 4 (.v 16) (.v 18)),
                (none, .load 21 true 4 (.v 20) none),
                (none, .new 9 (.agg [(.int .i64 0), (.int .i64 0), (.int .i64 0), (.int .i64 0)])),
                (none, .store 4 (.v 9) (.v 21) .copy)])
              (.seq
               (.region [(32, 9, false), (23, 9, false), (22, 0, false), (16, 0, false)] [] [0, 1, 7, 9, 16, 17, 18, 37] false [
                 (none, .mv 22 (.v 0)),
                 (none, .fadr 23 0 1 (.v 9)),
                 (none, .load 24 false 1 (.v 23) none),
                 (none, .call (some 25) 272 false [((.v 22), false), ((.v 24), false)]),
                 (none, .mv 26 (.v 1)),
                 (none, .bin 27 .gtr (.v 25) (.v 26)),
                 (none, .mv 28 (.v 27)),
                 (some (28, true), .mv 29 (.v 7)),
                 (some (28, true), .bin 30 .lss (.v 29) (.c (.int .i64 0))),
                 (some (28, true), .mv 31 (.v 30)),
                 (some (31, false), .fadr 32 0 1 (.v 9)),
                 (some (31, false), .load 33 false 1 (.v 32) none),
                 (some (31, false), .mv 34 (.v 7)),
                 (some (31, false), .bin 35 .lss (.v 33) (.v 34)),
                 (some (28, true), .pick 36 (.v 31) (.c (.bool true)) (.v 35)),
                 (none, .pick 37 (.v 28) (.v 36) (.c (.bool false)))])
               (.cond (.v 37)
                (.region [(38, 9, false), (16, 0, false)] [] [0, 1, 7, 16, 17, 18] false [
                  (none, .fadr 38 0 1 (.v 9)),
                  (none, .load 39 false 1 (.v 38) none),
                  (none, .asg 7 (.v 39) .copy)])
                (.skip [0, 1, 7, 16, 17, 18])))))
            (.region [(16, 0, false)] [] [0, 1, 7, 16, 17, 18] false [
              (none, .bin 40 .add (.v 18) (.c (.int .i64 1))),
              (none, .mv 18 (.v 40))])))))))
      (.seq
       (.seq
        (.region [] [] [7, 42] false [
          (none, .mv 41 (.v 7)),
          (none, .bin 42 .lss (.v 41) (.c (.int .i64 0)))])
        (.cond (.v 42)
         (.seq
          (.region [] [] [4, 5] false [
            (none, .asg 4 (.c (.int .i64 0)) .copy),
            (none, .asg 5 (.c (.int .i64 3)) .copy)])
          (.ret [4, 5]))
         (.skip [7])))
       (.seq
        (.region [] [] [4, 5] false [
          (none, .mv 43 (.v 7)),
          (none, .asg 4 (.v 43) .copy),
          (none, .asg 5 (.c (.int .i64 0)) .copy)])
        (.ret [4, 5])))))))⟩
def F293 : PFunc :=
 ⟨[false], [.tmp 2],
  (.seq
   (.region [] [] [0] false [
     (none, .asg 2 (.c (.int .i64 0)) .copy)])
   (.seq
    (.region [] [] [0, 3] false [
      (none, .asg 3 (.c (.int .i64 0)) .copy)])
    (.seq
     (.seq
      (.region [(6, 0, false)] [] [0, 3, 6, 7, 8] false [
        (none, .mv 6 (.v 0)),
        (none, .len 7 false (.v 6)),
        (none, .mv 8 (.c (.int .i64 0)))])
      (.block 0
       (.loop
        (.seq
         (.region [(6, 0, false)] [] [0, 3, 6, 7, 8, 9] false [
           (none, .bin 9 .lss (.v 8) (.v 7))])
         (.seq
          (.cond (.v 9)
           (.skip [0, 3, 6, 7, 8])
           (.exit 0 [3]))
          (.seq
           (.block 1
            (.seq
             (.region [(10, 0, false), (6, 0, false)] [] [0, 3, 5, 6, 7, 8] false [
               (none, .iadr 10 4 (.v 6) (.v 8)),
               (none, .load 11 true 4 (.v 10) none),
               (none, .new 5 (.agg [(.int .i64 0), (.int .i64 0), (.int .i64 0), (.int .i64 0)])),
               (none, .store 4 (.v 5) (.v 11) .copy)])
             (.region [(14, 5, false), (13, 0, false), (6, 0, false)] [] [0, 3, 6, 7, 8] false [
               (none, .mv 12 (.v 3)),
               (none, .mv 13 (.v 0)),
               (none, .fadr 14 0 1 (.v 5)),
               (none, .load 15 false 1 (.v 14) none),
               (none, .call (some 16) 272 false [((.v 13), false), ((.v 15), false)]),
               (none, .mm 17 true (.v 12) [(.v 16)]),
               (none, .asg 3 (.v 17) .copy)])))
           (.region [(6, 0, false)] [] [0, 3, 6, 7, 8] false [
             (none, .bin 18 .add (.v 8) (.c (.int .i64 1))),
             (none, .mv 8 (.v 18))])))))))
     (.seq
      (.region [] [] [2] false [
        (none, .mv 19 (.v 3)),
        (none, .asg 2 (.v 19) .copy)])
      (.ret [2])))))⟩
def F306 : PFunc :=
 ⟨[false, false], [.tmp 4],
  (.seq
   (.region [] [] [0, 1] false [
     (none, .asg 4 (.c (.sl true 4 [])) .copy)])
   (.seq
    (.region [(8, 0, false)] [] [1, 5] false [
      (none, .mv 8 (.v 0)),
      (none, .call (some 9) 786 false [((.v 8), false)]),
      (none, .asg 5 (.v 9) .move)])
    (.seq
     (.seq
      (.region [(10, 1, false)] [] [1, 5, 10, 11, 12] false [
        (none, .mv 10 (.v 1)),
        (none, .len 11 false (.v 10)),
        (none, .mv 12 (.c (.int .i64 0)))])
      (.block 0
       (.loop
        (.seq
         (.region [(10, 1, false)] [] [1, 5, 10, 11, 12, 13] false [
           (none, .bin 13 .lss (.v 12) (.v 11))])
         (.seq
          (.cond (.v 13)
           (.skip [1, 5, 10, 11, 12])
           (.exit 0 [5]))
          (.seq
           (.block 1
            (.seq
             (.region [(15, 1, false), (10, 1, false)] [] [1, 5, 6, 7, 10, 11, 12] false [
               (none, .mv 14 (.v 12)),
               (none, .iadr 15 1 (.v 10) (.v 12)),
               (none, .load 16 false 1 (.v 15) none),
               (none, .asg 6 (.v 14) .copy),
               (none, .asg 7 (.v 16) .copy)])
             (.seq
              (.region [(25, 5, false), (24, 5, false), (20, 5, false), (19, 5, false), (17, 5, false), (10, 1, false)] [] [1, 5, 6, 7, 10, 11, 12] false [
                (none, .mv 17 (.v 5)),
                (none, .mv 18 (.v 6)),
                (none, .iadr 19 4 (.v 17) (.v 18)),
                (none, .fadr 20 0 1 (.v 19)),
                (none, .load 21 false 1 (.v 20) none),
                (none, .mv 22 (.v 7)),
                (none, .bin 23 .add (.v 21) (.v 22)),
                (none, .iadr 24 4 (.v 17) (.v 18)),
                (none, .fadr 25 0 1 (.v 24)),
                (none, .store 1 (.v 25) (.v 23) .copy)])
              (.region [(34, 5, false), (33, 5, false), (29, 5, false), (28, 5, false), (26, 5, false), (10, 1, false)] [] [1, 5, 10, 11, 12] false [
                (none, .mv 26 (.v 5)),
                (none, .mv 27 (.v 6)),
                (none, .iadr 28 4 (.v 26) (.v 27)),
                (none, .fadr 29 3 1 (.v 28)),
                (none, .load 30 false 1 (.v 29) none),
                (none, .mv 31 (.v 7)),
                (none, .bin 32 .sub (.v 30) (.v 31)),
                (none, .iadr 33 4 (.v 26) (.v 27)),
                (none, .fadr 34 3 1 (.v 33)),
                (none, .store 1 (.v 34) (.v 32) .copy)]))))
           (.region [(10, 1, false)] [] [1, 5, 10, 11, 12] false [
             (none, .bin 35 .add (.v 12) (.c (.int .i64 1))),
             (none, .mv 12 (.v 35))])))))))
     (.seq
      (.region [(36, 5, false)] [] [4] false [
        (none, .mv 36 (.v 5)),
        (none, .asg 4 (.v 36) .move)])
      (.ret [4])))))⟩
def F315 : PFunc :=
 ⟨[false], [.tmp 2],
  (.seq
   (.region [] [] [0] false [
     (none, .asg 2 (.c (.int .i64 0)) .copy)])
   (.seq
    (.region [] [] [0, 3] false [
      (none, .asg 3 (.c (.int .i64 0)) .copy)])
    (.seq
     (.seq
      (.region [(6, 0, false)] [] [0, 3, 6, 7, 8] false [
        (none, .mv 6 (.v 0)),
        (none, .len 7 false (.v 6)),
        (none, .mv 8 (.c (.int .i64 0)))])
      (.block 0
       (.loop
        (.seq
         (.region [(6, 0, false)] [] [0, 3, 6, 7, 8, 9] false [
           (none, .bin 9 .lss (.v 8) (.v 7))])
         (.seq
          (.cond (.v 9)
           (.skip [0, 3, 6, 7, 8])
           (.exit 0 [3]))
          (.seq
           (.block 1
            (.seq
             (.region [(10, 0, false), (6, 0, false)] [] [0, 3, 5, 6, 7, 8] false [
               (none, .iadr 10 1 (.v 6) (.v 8)),
               (none, .load 11 false 1 (.v 10) none),
               (none, .asg 5 (.v 11) .copy)])
             (.region [(6, 0, false)] [] [0, 3, 6, 7, 8] false [
               (none, .mv 12 (.v 3)),
               (none, .mv 13 (.v 5)),
               (none, .bin 14 .add (.v 12) (.v 13)),
               (none, .asg 3 (.v 14) .copy)])))
           (.region [(6, 0, false)] [] [0, 3, 6, 7, 8] false [
             (none, .bin 15 .add (.v 8) (.c (.int .i64 1))),
             (none, .mv 8 (.v 15))])))))))
     (.seq
      (.region [] [] [2] false [
        (none, .mv 16 (.v 3)),
        (none, .asg 2 (.v 16) .copy)])
      (.ret [2])))))⟩
def F124 : PFunc :=
 ⟨[false, true, true, true, true], [],
  (.seq
   (.region [(7, 0, false)] [] [0, 1, 2, 3, 4, 6] false [
     (none, .mv 7 (.v 0)),
     (none, .call (some 8) 315 false [((.v 7), false)]),
     (none, .asg 6 (.v 8) .copy)])
   (.seq
    (.region [(18, 0, false), (17, 2, true)] [] [0, 1, 2, 3, 4, 6, 23] true [
      (none, .load 9 false 1 (.v 1) none),
      (none, .bin 10 .lss (.v 9) (.c (.int .i64 0))),
      (none, .mv 11 (.v 10)),
      (some (11, false), .mv 12 (.v 6)),
      (some (11, false), .load 13 false 1 (.v 1) none),
      (some (11, false), .bin 14 .lss (.v 12) (.v 13)),
      (none, .pick 15 (.v 11) (.c (.bool true)) (.v 14)),
      (none, .mv 16 (.v 15)),
      (some (16, true), .load 17 false 1 (.v 2) none),
      (some (16, true), .mv 18 (.v 0)),
      (some (16, true), .call (some 19) 306 false [((.v 17), false), ((.v 18), false)]),
      (some (16, true), .call (some 20) 293 false [((.v 19), false)]),
      (some (16, true), .load 21 false 1 (.v 3) none),
      (some (16, true), .bin 22 .leq (.v 20) (.v 21)),
      (none, .pick 23 (.v 16) (.v 22) (.c (.bool false)))])
    (.cond (.v 23)
     (.region [(24, 0, false)] [] [1, 2, 3, 4] false [
       (none, .mv 24 (.v 0)),
       (none, .call (some 25) 784 false [((.v 24), false)]),
       (none, .mv 26 (.v 6)),
       (none, .store 1 (.v 4) (.v 25) .move),
       (none, .store 1 (.v 1) (.v 26) .copy)])
     (.skip [1, 2, 3, 4]))))⟩
def F242 : PFunc :=
 ⟨[false, false, true], [],
  (.seq
   (.seq
    (.region [(9, 0, false), (7, 1, false)] [] [0, 1, 2, 11] false [
      (none, .mv 7 (.v 1)),
      (none, .len 8 false (.v 7)),
      (none, .mv 9 (.v 0)),
      (none, .len 10 false (.v 9)),
      (none, .bin 11 .eql (.v 8) (.v 10))])
    (.cond (.v 11)
     (.seq
      (.region [(13, 1, false), (12, 2, false)] [] [2] false [
        (none, .mv 12 (.v 2)),
        (none, .mv 13 (.v 1)),
        (none, .callo (some 14) 12 [(.v 13)])])
      (.ret [2]))
     (.skip [0, 1, 2])))
   (.seq
    (.region [] [] [0, 1, 2, 6] false [
      (none, .asg 6 (.c (.int .i64 0)) .copy)])
    (.block 0
     (.loop
      (.seq
       (.seq
        (.region [(20, 0, false), (19, 0, false), (17, 1, false), (16, 0, false)] [] [0, 1, 2, 6, 22] false [
          (none, .mv 15 (.v 6)),
          (none, .mv 16 (.v 0)),
          (none, .mv 17 (.v 1)),
          (none, .len 18 false (.v 17)),
          (none, .iadr 19 4 (.v 16) (.v 18)),
          (none, .fadr 20 3 1 (.v 19)),
          (none, .load 21 false 1 (.v 20) none),
          (none, .bin 22 .leq (.v 15) (.v 21))])
        (.cond (.v 22)
         (.skip [0, 1, 2, 6])
         (.exit 0 [2])))
       (.seq
        (.block 1
         (.region [(31, 2, false), (26, 1, false), (25, 0, false)] [] [0, 1, 2, 6] false [
           (none, .mv 25 (.v 0)),
           (none, .mv 26 (.v 1)),
           (none, .call (some 27) 784 false [((.v 26), false)]),
           (none, .mv 28 (.v 6)),
           (none, .mksl 29 1 (.int .i64 0) 1 [(0, (.v 28), .copy)]),
           (none, .app 30 1 (.v 27) (.v 29) .move),
           (none, .mv 31 (.v 2)),
           (none, .call (some 32) 242 true [((.v 25), false), ((.v 30), false), ((.v 31), true)])]))
        (.region [] [] [0, 1, 2, 6] false [
          (none, .mv 23 (.v 6)),
          (none, .bin 24 .add (.v 23) (.c (.int .i64 1))),
          (none, .asg 6 (.v 24) .copy)])))))))⟩
def F123 : PFunc :=
 ⟨[false, false], [.tmp 4, .tmp 5],
  (.seq
   (.region [] [8, 7] [2, 3] false [
     (none, .box 2 (.v 0) .move),
     (none, .box 3 (.v 1) .copy),
     (none, .asg 4 (.c (.sl true 1 [])) .copy),
     (none, .asg 5 (.c (.int .i64 0)) .copy)])
   (.seq
    (.seq
     (.region [(9, 2, true)] [8, 2, 3, 7] [2, 3, 6] false [
       (none, .load 9 false 1 (.v 2) none),
       (none, .load 10 false 1 (.v 3) none),
       (none, .call (some 11) 260 false [((.v 9), false), ((.v 10), false)]),
       (none, .asg 6 (.v 11) .copy)])
     (.seq
      (.region [] [8, 2, 3, 7] [2, 3, 6, 13] false [
        (none, .mv 12 (.v 6)),
        (none, .bin 13 .neq (.v 12) (.c (.int .i64 0)))])
      (.cond (.v 13)
       (.seq
        (.region [] [8, 2, 3, 7] [4, 5] false [
          (none, .mv 14 (.v 6)),
          (none, .asg 4 (.c (.sl true 1 [])) .copy),
          (none, .asg 5 (.v 14) .copy)])
        (.ret [4, 5]))
       (.skip [2, 3]))))
    (.seq
     (.region [] [2, 3] [2, 3, 7, 8] false [
       (none, .mksl 15 1 (.int .i64 0) 0 []),
       (none, .new 7 (.sl true 1 [])),
       (none, .new 8 (.int .i64 0)),
       (none, .store 1 (.v 7) (.v 15) .move),
       (none, .store 1 (.v 8) (.c (.int .i64 (-1))) .copy)])
     (.seq
      (.region [(16, 2, true)] [8, 2, 3, 7] [7, 8] false [
        (none, .load 16 false 1 (.v 2) none),
        (none, .mkfn 17 124 [8, 2, 3, 7]),
        (none, .callc (some 18) 242 [(.v 16), (.c (.sl false 1 []))] 17 [8, 2, 3, 7])])
      (.seq
       (.seq
        (.region [] [8, 2, 3, 7] [7, 20] false [
          (none, .load 19 false 1 (.v 8) none),
          (none, .bin 20 .lss (.v 19) (.c (.int .i64 0)))])
        (.cond (.v 20)
         (.seq
          (.region [] [8, 2, 3, 7] [4, 5] false [
            (none, .asg 4 (.c (.sl true 1 [])) .copy),
            (none, .asg 5 (.c (.int .i64 3)) .copy)])
          (.ret [4, 5]))
         (.skip [7])))
       (.seq
        (.region [(21, 7, true)] [8, 2, 3, 7] [4, 5] false [
          (none, .load 21 false 1 (.v 7) none),
          (none, .asg 4 (.v 21) .move),
          (none, .asg 5 (.c (.int .i64 0)) .copy)])
        (.ret [4, 5])))))))⟩
def F137 : PFunc :=
 ⟨[false, false], [.tmp 3],
  (.seq
   (.region [] [] [0, 1] false [
     (none, .asg 3 (.c (.bool false)) .copy)])
   (.seq
    (.region [] [] [3] false [
      (none, .mv 4 (.v 0)),
      (none, .load 5 false 1 (.v 1) none),
      (none, .bin 6 .sub (.v 5) (.c (.int .i64 1))),
      (none, .call (some 7) 326 false [((.v 4), false), ((.c (.int .i64 0)), false), ((.v 6), false)]),
      (none, .un 8 .not (.v 7)),
      (none, .asg 3 (.v 8) .copy)])
    (.ret [3])))⟩
def F818 : PFunc :=
 ⟨[false, false], [.tmp 4],
  (.seq
   (.region [] [] [0, 1] false [
     (none, .asg 4 (.c (.int .i64 0)) .copy)])
   (.seq
    (.seq
     (.region [(6, 0, false)] [] [0, 1, 7, 8] false [
       (none, .mv 6 (.v 0)),
       (none, .len 7 false (.v 6)),
       (none, .mv 8 (.c (.int .i64 0)))])
     (.block 0
      (.loop
       (.seq
        (.region [] [] [0, 1, 7, 8, 9] false [
          (none, .bin 9 .lss (.v 8) (.v 7))])
        (.seq
         (.cond (.v 9)
          (.skip [0, 1, 7, 8])
          (.exit 0 []))
         (.seq
          (.block 1
           (.seq
            (.region [] [] [0, 1, 5, 7, 8] false [
              (none, .mv 10 (.v 8)),
              (none, .asg 5 (.v 10) .copy)])
            (.seq
             (.region [(14, 0, false), (12, 0, false), (11, 1, false)] [] [0, 1, 5, 7, 8, 16] false [
               (none, .mv 11 (.v 1)),
               (none, .mv 12 (.v 0)),
               (none, .mv 13 (.v 5)),
               (none, .iadr 14 1 (.v 12) (.v 13)),
               (none, .load 15 false 1 (.v 14) none),
               (none, .callv (some 16) (.v 11) [(.v 15)])])
             (.cond (.v 16)
              (.seq
               (.region [] [] [4] false [
                 (none, .mv 17 (.v 5)),
                 (none, .asg 4 (.v 17) .copy)])
               (.ret [4]))
              (.skip [0, 1, 7, 8])))))
          (.region [] [] [0, 1, 7, 8] false [
            (none, .bin 18 .add (.v 8) (.c (.int .i64 1))),
            (none, .mv 8 (.v 18))])))))))
    (.seq
     (.region [] [] [4] false [
       (none, .asg 4 (.c (.int .i64 (-1))) .copy)])
     (.ret [4]))))⟩
def F796 : PFunc :=
 ⟨[false, false], [.tmp 4],
  (.seq
   (.region [] [] [0, 1] false [
     (none, .asg 4 (.c (.bool false)) .copy)])
   (.seq
    (.region [(6, 1, false), (5, 0, false)] [] [4] false [
      (none, .mv 5 (.v 0)),
      (none, .mv 6 (.v 1)),
      (none, .call (some 7) 818 false [((.v 5), false), ((.v 6), false)]),
      (none, .bin 8 .geq (.v 7) (.c (.int .i64 0))),
      (none, .asg 4 (.v 8) .copy)])
    (.ret [4])))⟩
def F136 : PFunc :=
 ⟨[false, false, false], [.tmp 6, .tmp 7],
  (.seq
   (.region [] [] [0, 2, 4] false [
     (none, .box 4 (.v 1) .copy),
     (none, .asg 6 (.c (.int .i64 0)) .copy),
     (none, .asg 7 (.c (.int .i64 0)) .copy)])
   (.seq
    (.region [] [4] [0, 2, 4, 8] false [
      (none, .mv 9 (.v 0)),
      (none, .load 10 false 1 (.v 4) none),
      (none, .call (some 11) 307 false [((.v 9), false), ((.v 10), false)]),
      (none, .asg 8 (.v 11) .copy)])
    (.seq
     (.seq
      (.region [(21, 2, false), (15, 2, false)] [4] [0, 2, 4, 8, 25] false [
        (none, .mv 12 (.v 8)),
        (none, .bin 13 .eql (.v 12) (.c (.int .i64 0))),
        (none, .mv 14 (.v 13)),
        (some (14, true), .mv 15 (.v 2)),
        (some (14, true), .len 16 false (.v 15)),
        (some (14, true), .mv 17 (.v 0)),
        (some (14, true), .len 18 true (.v 17)),
        (some (14, true), .bin 19 .neq (.v 16) (.v 18)),
        (some (14, true), .mv 20 (.v 19)),
        (some (20, false), .mv 21 (.v 2)),
        (some (20, false), .mkfn 22 137 [4]),
        (some (20, false), .call (some 23) 796 false [((.v 21), false), ((.v 22), false)]),
        (some (14, true), .pick 24 (.v 20) (.c (.bool true)) (.v 23)),
        (none, .pick 25 (.v 14) (.v 24) (.c (.bool false)))])
      (.cond (.v 25)
       (.region [] [4] [0, 2, 4, 8] false [
         (none, .asg 8 (.c (.int .i64 2)) .copy)])
       (.skip [0, 2, 4, 8])))
     (.seq
      (.seq
       (.region [] [4] [0, 2, 4, 8, 27] false [
         (none, .mv 26 (.v 8)),
         (none, .bin 27 .neq (.v 26) (.c (.int .i64 0)))])
       (.cond (.v 27)
        (.seq
         (.region [] [4] [6, 7] false [
           (none, .mv 28 (.v 8)),
           (none, .asg 6 (.c (.int .i64 0)) .copy),
           (none, .asg 7 (.v 28) .copy)])
         (.ret [6, 7]))
        (.skip [0, 2, 4])))
      (.seq
       (.region [(31, 2, false)] [4] [6, 7] false [
         (none, .mv 29 (.v 0)),
         (none, .load 30 false 1 (.v 4) none),
         (none, .mv 31 (.v 2)),
         (none, .call (some 32) 290 false [((.v 29), false), ((.v 30), false), ((.v 31), false)]),
         (none, .asg 6 (.v 32) .copy),
         (none, .asg 7 (.c (.int .i64 0)) .copy)])
       (.ret [6, 7]))))))⟩
def F146 : PFunc :=
 ⟨[false], [.tmp 2, .tmp 3],
  (.seq
   (.region [] [] [0] false [
     (none, .asg 2 (.c (.int .i64 0)) .copy),
     (none, .asg 3 (.c (.int .i64 0)) .copy)])
   (.seq
    (.seq
     (.region [(4, 0, false)] [] [0, 6] false [
       (none, .mv 4 (.v 0)),
       (none, .call (some 5) 210 false [((.v 4), false)]),
       (none, .un 6 .not (.v 5))])
     (.cond (.v 6)
      (.seq
       (.region [] [] [2, 3] false [
         (none, .asg 2 (.c (.int .i64 0)) .copy),
         (none, .asg 3 (.c (.int .i64 1)) .copy)])
       (.ret [2, 3]))
      (.skip [0])))
    (.seq
     (.region [(7, 0, false)] [] [2, 3] false [
       (none, .mv 7 (.v 0)),
       (none, .call (some 8) 293 false [((.v 7), false)]),
       (none, .asg 2 (.v 8) .copy),
       (none, .asg 3 (.c (.int .i64 0)) .copy)])
     (.ret [2, 3]))))⟩
def F147 : PFunc :=
 ⟨[false, false], [.tmp 4, .tmp 5],
  (.seq
   (.region [] [] [0, 1] false [
     (none, .asg 4 (.c (.str [])) .copy),
     (none, .asg 5 (.c (.int .i64 0)) .copy)])
   (.seq
    (.block 0
     (.seq
      (.region [] [] [0, 1, 9] false [
        (none, .mv 10 (.v 0)),
        (none, .call (some 11) 222 false [((.v 10), false)]),
        (none, .un 12 .not (.v 11)),
        (none, .asg 9 (.v 12) .copy)])
      (.cond (.v 9)
       (.seq
        (.region [] [] [4, 5] false [
          (none, .asg 4 (.c (.str [])) .copy),
          (none, .asg 5 (.c (.int .i64 1)) .copy)])
        (.ret [4, 5]))
       (.seq
        (.region [] [] [0, 1, 13] false [
          (none, .mv 14 (.v 1)),
          (none, .call (some 15) 326 false [((.v 14), false), ((.c (.int .i64 1)), false), ((.c (.int .i64 24)), false)]),
          (none, .un 16 .not (.v 15)),
          (none, .asg 13 (.v 16) .copy)])
        (.cond (.v 13)
         (.seq
          (.region [] [] [4, 5] false [
            (none, .asg 4 (.c (.str [])) .copy),
            (none, .asg 5 (.c (.int .i64 2)) .copy)])
          (.ret [4, 5]))
         (.skip [0, 1]))))))
    (.seq
     (.region [] [] [0, 1, 6] false [
       (none, .mksl 17 1 (.int .u8 0) 0 []),
       (none, .asg 6 (.v 17) .move)])
     (.seq
      (.seq
       (.region [] [] [0, 6, 21, 22, 23] false [
         (none, .mv 18 (.v 0)),
         (none, .len 19 true (.v 18)),
         (none, .mv 20 (.v 1)),
         (none, .call (some 21) 304 false [((.v 19), false), ((.v 20), false)]),
         (none, .len 22 false (.v 21)),
         (none, .mv 23 (.c (.int .i64 0)))])
       (.block 1
        (.loop
         (.seq
          (.region [] [] [0, 6, 21, 22, 23, 24] false [
            (none, .bin 24 .lss (.v 23) (.v 22))])
          (.seq
           (.cond (.v 24)
            (.skip [0, 6, 21, 22, 23])
            (.exit 1 [6]))
           (.seq
            (.block 2
             (.seq
              (.region [(25, 21, false)] [] [0, 6, 8, 21, 22, 23] false [
                (none, .iadr 25 1 (.v 21) (.v 23)),
                (none, .load 26 false 1 (.v 25) none),
                (none, .asg 8 (.v 26) .copy)])
              (.region [(27, 6, false)] [] [0, 6, 21, 22, 23] false [
                (none, .mv 27 (.v 6)),
                (none, .mv 28 (.v 0)),
                (none, .mv 29 (.v 8)),
                (none, .idx 30 (.v 28) (.v 29)),
                (none, .mksl 31 1 (.int .u8 0) 1 [(0, (.v 30), .copy)]),
                (none, .app 32 1 (.v 27) (.v 31) .move),
                (none, .asg 6 (.v 32) .move)])))
            (.region [] [] [0, 6, 21, 22, 23] false [
              (none, .bin 33 .add (.v 23) (.c (.int .i64 1))),
              (none, .mv 23 (.v 33))])))))))
      (.seq
       (.region [(34, 6, false)] [] [4, 5] false [
         (none, .mv 34 (.v 6)),
         (none, .b2s 35 (.v 34)),
         (none, .asg 4 (.v 35) .copy),
         (none, .asg 5 (.c (.int .i64 0)) .copy)])
       (.ret [4, 5]))))))⟩
def F179 : PFunc :=
 ⟨[false, false], [.tmp 4, .tmp 5],
  (.seq
   (.region [] [] [0, 1] false [
     (none, .asg 4 (.c (.sl true 4 [])) .copy),
     (none, .asg 5 (.c (.int .i64 0)) .copy)])
   (.seq
    (.seq
     (.region [(9, 0, false)] [] [0, 1, 11] false [
       (none, .mv 9 (.v 0)),
       (none, .call (some 10) 210 false [((.v 9), false)]),
       (none, .un 11 .not (.v 10))])
     (.cond (.v 11)
      (.seq
       (.region [] [] [4, 5] false [
         (none, .asg 4 (.c (.sl true 4 [])) .copy),
         (none, .asg 5 (.c (.int .i64 1)) .copy)])
       (.ret [4, 5]))
      (.skip [0, 1])))
    (.seq
     (.seq
      (.region [(14, 0, false), (12, 1, false)] [] [0, 1, 16] false [
        (none, .mv 12 (.v 1)),
        (none, .len 13 false (.v 12)),
        (none, .mv 14 (.v 0)),
        (none, .len 15 false (.v 14)),
        (none, .bin 16 .neq (.v 13) (.v 15))])
      (.cond (.v 16)
       (.seq
        (.region [] [] [4, 5] false [
          (none, .asg 4 (.c (.sl true 4 [])) .copy),
          (none, .asg 5 (.c (.int .i64 2)) .copy)])
        (.ret [4, 5]))
       (.skip [0, 1])))
     (.seq
      (.seq
       (.region [(17, 1, false)] [] [0, 1, 17, 18, 19] false [
         (none, .mv 17 (.v 1)),
         (none, .len 18 false (.v 17)),
         (none, .mv 19 (.c (.int .i64 0)))])
       (.block 0
        (.loop
         (.seq
          (.region [(17, 1, false)] [] [0, 1, 17, 18, 19, 20] false [
            (none, .bin 20 .lss (.v 19) (.v 18))])
          (.seq
           (.cond (.v 20)
            (.skip [0, 1, 17, 18, 19])
            (.exit 0 [0, 1]))
           (.seq
            (.block 1
             (.seq
              (.region [(22, 1, false), (17, 1, false)] [] [0, 1, 6, 7, 17, 18, 19] false [
                (none, .mv 21 (.v 19)),
                (none, .iadr 22 1 (.v 17) (.v 19)),
                (none, .load 23 false 1 (.v 22) none),
                (none, .asg 6 (.v 21) .copy),
                (none, .asg 7 (.v 23) .copy)])
              (.seq
               (.region [(28, 0, false), (27, 0, false), (25, 0, false), (17, 1, false)] [] [0, 1, 17, 18, 19, 31] false [
                 (none, .mv 24 (.v 7)),
                 (none, .mv 25 (.v 0)),
                 (none, .mv 26 (.v 6)),
                 (none, .iadr 27 4 (.v 25) (.v 26)),
                 (none, .fadr 28 3 1 (.v 27)),
                 (none, .load 29 false 1 (.v 28) none),
                 (none, .call (some 30) 326 false [((.v 24), false), ((.c (.int .i64 0)), false), ((.v 29), false)]),
                 (none, .un 31 .not (.v 30))])
               (.cond (.v 31)
                (.seq
                 (.region [] [] [4, 5] false [
                   (none, .asg 4 (.c (.sl true 4 [])) .copy),
                   (none, .asg 5 (.c (.int .i64 2)) .copy)])
                 (.ret [4, 5]))
                (.skip [0, 1, 17, 18, 19])))))
            (.region [(17, 1, false)] [] [0, 1, 17, 18, 19] false [
              (none, .bin 32 .add (.v 19) (.c (.int .i64 1))),
              (none, .mv 19 (.v 32))])))))))
      (.seq
       (.region [(34, 1, false), (33, 0, false)] [] [8] false [
         (none, .mv 33 (.v 0)),
         (none, .mv 34 (.v 1)),
         (none, .call (some 35) 306 false [((.v 33), false), ((.v 34), false)]),
         (none, .asg 8 (.v 35) .move)])
       (.seq
        (.seq
         (.region [(36, 8, false)] [] [8, 38] false [
           (none, .mv 36 (.v 8)),
           (none, .call (some 37) 210 false [((.v 36), false)]),
           (none, .un 38 .not (.v 37))])
         (.cond (.v 38)
          (.seq
           (.region [] [] [4, 5] false [
             (none, .asg 4 (.c (.sl true 4 [])) .copy),
             (none, .asg 5 (.c (.int .i64 5)) .copy)])
           (.ret [4, 5]))
          (.skip [8])))
        (.seq
         (.region [(39, 8, false)] [] [4, 5] false [
           (none, .mv 39 (.v 8)),
           (none, .asg 4 (.v 39) .move),
           (none, .asg 5 (.c (.int .i64 0)) .copy)])
         (.ret [4, 5]))))))))⟩
def F384 : PFunc :=
 ⟨[false, false, false], [.tmp 6],
  (.seq
   (.region [] [] [0, 1, 2] false [
     (none, .asg 6 (.c (.int .i64 0)) .copy)])
   (.seq
    (.seq
     (.region [(8, 0, false)] [] [0, 1, 2, 14] false [
       (none, .mv 7 (.v 1)),
       (none, .mv 8 (.v 0)),
       (none, .len 9 false (.v 8)),
       (none, .bin 10 .geq (.v 7) (.v 9)),
       (none, .mv 11 (.v 10)),
       (some (11, false), .mv 12 (.v 2)),
       (some (11, false), .bin 13 .lss (.v 12) (.c (.int .i64 1))),
       (none, .pick 14 (.v 11) (.c (.bool true)) (.v 13))])
     (.cond (.v 14)
      (.seq
       (.region [] [] [6] false [
         (none, .asg 6 (.c (.int .i64 0)) .copy)])
       (.ret [6]))
      (.skip [0, 1, 2])))
    (.seq
     (.region [(17, 0, false), (15, 0, false)] [] [6] false [
       (none, .mv 15 (.v 0)),
       (none, .mv 16 (.v 1)),
       (none, .iadr 17 1 (.v 15) (.v 16)),
       (none, .load 18 false 1 (.v 17) none),
       (none, .conv 19 .i64 (.v 18)),
       (none, .mv 20 (.v 2)),
       (none, .bin 21 .rem (.v 19) (.v 20)),
       (none, .asg 6 (.v 21) .copy)])
     (.ret [6]))))⟩
def F386 : PFunc :=
 ⟨[false, false], [.tmp 4],
  (.seq
   (.region [] [] [0, 1] false [
     (none, .asg 4 (.c (.bool false)) .copy)])
   (.seq
    (.region [(9, 1, false), (5, 0, false)] [] [4] false [
      (none, .mv 5 (.v 0)),
      (none, .len 6 false (.v 5)),
      (none, .bin 7 .gtr (.v 6) (.c (.int .i64 3000))),
      (none, .mv 8 (.v 7)),
      (some (8, false), .mv 9 (.v 1)),
      (some (8, false), .len 10 false (.v 9)),
      (some (8, false), .bin 11 .gtr (.v 10) (.c (.int .i64 3000))),
      (none, .pick 12 (.v 8) (.c (.bool true)) (.v 11)),
      (none, .asg 4 (.v 12) .copy)])
    (.ret [4])))⟩
def F390 : PFunc :=
 ⟨[false], [.tmp 2],
  (.seq
   (.region [] [] [0] false [
     (none, .asg 2 (.c (.int .i64 0)) .copy)])
   (.seq
    (.region [] [] [0, 3] false [
      (none, .asg 3 (.c (.int .i64 0)) .copy)])
    (.seq
     (.seq
      (.region [] [] [0, 3, 4] false [
        (none, .asg 4 (.c (.int .i64 0)) .copy)])
      (.block 0
       (.loop
        (.seq
         (.seq
          (.region [(6, 0, false)] [] [0, 3, 4, 8] false [
            (none, .mv 5 (.v 4)),
            (none, .mv 6 (.v 0)),
            (none, .len 7 false (.v 6)),
            (none, .bin 8 .lss (.v 5) (.v 7))])
          (.cond (.v 8)
           (.skip [0, 3, 4])
           (.exit 0 [3])))
         (.seq
          (.block 1
           (.region [(14, 0, false), (12, 0, false)] [] [0, 3, 4] false [
             (none, .mv 11 (.v 3)),
             (none, .mv 12 (.v 0)),
             (none, .mv 13 (.v 4)),
             (none, .iadr 14 1 (.v 12) (.v 13)),
             (none, .load 15 false 1 (.v 14) none),
             (none, .bin 16 .add (.v 11) (.v 15)),
             (none, .asg 3 (.v 16) .copy)]))
          (.region [] [] [0, 3, 4] false [
            (none, .mv 9 (.v 4)),
            (none, .bin 10 .add (.v 9) (.c (.int .i64 1))),
            (none, .asg 4 (.v 10) .copy)]))))))
     (.seq
      (.region [] [] [2] false [
        (none, .mv 17 (.v 3)),
        (none, .asg 2 (.v 17) .copy)])
      (.ret [2])))))⟩
def F603 : PFunc :=
 ⟨[false], [.tmp 2],
  (.seq
   (.region [] [] [0] false [
     (none, .asg 2 (.c .nilp) .copy)])
   (.seq
    (.region [(3, 0, false)] [] [2] false [
      (none, .mv 3 (.v 0)),
      (none, .build 4 [(.sl false 1 []), (.int .i64 0), (.int .u64 0)] [(0, 1, (.v 3), .move)]),
      (none, .box 5 (.v 4) .move),
      (none, .asg 2 (.v 5) .move)])
    (.ret [2])))⟩
def F5 : PFunc :=
 ⟨[true], [.tmp 2],
  (.seq
   (.region [] [] [0] false [
     (none, .asg 2 (.c (.int .i64 0)) .copy)])
   (.seq
    (.region [] [] [0, 3] false [
      (none, .asg 3 (.c (.int .i64 0)) .copy)])
    (.seq
     (.seq
      (.region [(11, 0, true), (10, 0, false), (9, 0, false), (8, 0, false), (6, 0, false), (5, 0, false), (4, 0, false)] [] [0, 3, 13] true [
        (none, .mvr 4 0),
        (none, .nchk 5 (.v 4)),
        (none, .fadr 6 1 1 (.v 5)),
        (none, .load 7 false 1 (.v 6) none),
        (none, .mvr 8 0),
        (none, .nchk 9 (.v 8)),
        (none, .fadr 10 0 1 (.v 9)),
        (none, .load 11 false 1 (.v 10) none),
        (none, .len 12 false (.v 11)),
        (none, .bin 13 .lss (.v 7) (.v 12))])
      (.cond (.v 13)
       (.region [(22, 0, true), (20, 0, false), (19, 0, false), (18, 0, false), (17, 0, true), (16, 0, false), (15, 0, false), (14, 0, false)] [] [0, 3] true [
         (none, .mvr 14 0),
         (none, .nchk 15 (.v 14)),
         (none, .fadr 16 0 1 (.v 15)),
         (none, .load 17 false 1 (.v 16) none),
         (none, .mvr 18 0),
         (none, .nchk 19 (.v 18)),
         (none, .fadr 20 1 1 (.v 19)),
         (none, .load 21 false 1 (.v 20) none),
         (none, .iadr 22 1 (.v 17) (.v 21)),
         (none, .load 23 false 1 (.v 22) none),
         (none, .conv 24 .i64 (.v 23)),
         (none, .asg 3 (.v 24) .copy)])
       (.skip [0, 3])))
     (.seq
      (.region [(31, 0, false), (30, 0, false), (27, 0, false), (26, 0, false), (25, 0, false)] [] [0, 3] false [
        (none, .mv 25 (.v 0)),
        (none, .nchk 26 (.v 25)),
        (none, .fadr 27 1 1 (.v 26)),
        (none, .load 28 false 1 (.v 27) none),
        (none, .bin 29 .add (.v 28) (.c (.int .i64 1))),
        (none, .nchk 30 (.v 25)),
        (none, .fadr 31 1 1 (.v 30)),
        (none, .store 1 (.v 31) (.v 29) .copy)])
      (.seq
       (.region [(43, 0, false), (42, 0, false), (35, 0, false), (34, 0, false), (33, 0, false), (32, 0, false)] [] [0, 3] false [
         (none, .mv 32 (.v 0)),
         (none, .mv 33 (.v 0)),
         (none, .nchk 34 (.v 33)),
         (none, .fadr 35 2 1 (.v 34)),
         (none, .load 36 false 1 (.v 35) none),
         (none, .bin 37 .mul (.v 36) (.c (.int .u64 6364136223846793005))),
         (none, .mv 38 (.v 3)),
         (none, .conv 39 .u64 (.v 38)),
         (none, .bin 40 .add (.v 37) (.v 39)),
         (none, .bin 41 .add (.v 40) (.c (.int .u64 1442695040888963407))),
         (none, .nchk 42 (.v 32)),
         (none, .fadr 43 2 1 (.v 42)),
         (none, .store 1 (.v 43) (.v 41) .copy)])
       (.seq
        (.seq
         (.region [(51, 0, true), (50, 0, false), (49, 0, false), (48, 0, false), (46, 0, false), (45, 0, false), (44, 0, false)] [] [0, 3, 53] true [
           (none, .mvr 44 0),
           (none, .nchk 45 (.v 44)),
           (none, .fadr 46 1 1 (.v 45)),
           (none, .load 47 false 1 (.v 46) none),
           (none, .mvr 48 0),
           (none, .nchk 49 (.v 48)),
           (none, .fadr 50 0 1 (.v 49)),
           (none, .load 51 false 1 (.v 50) none),
           (none, .len 52 false (.v 51)),
           (none, .bin 53 .leq (.v 47) (.v 52))])
         (.cond (.v 53)
          (.seq
           (.region [] [] [0, 2] false [
             (none, .mv 54 (.v 3)),
             (none, .asg 2 (.v 54) .copy)])
           (.ret [0, 2]))
          (.skip [0])))
        (.seq
         (.region [(57, 0, false), (56, 0, false), (55, 0, false)] [] [0, 2] false [
           (none, .mv 55 (.v 0)),
           (none, .nchk 56 (.v 55)),
           (none, .fadr 57 2 1 (.v 56)),
           (none, .load 58 false 1 (.v 57) none),
           (none, .bin 59 .shr (.v 58) (.c (.int .u64 40))),
           (none, .bin 60 .and (.v 59) (.c (.int .u64 255))),
           (none, .conv 61 .i64 (.v 60)),
           (none, .asg 2 (.v 61) .copy)])
         (.ret [0, 2]))))))))⟩
def F7 : PFunc :=
 ⟨[true, false], [.tmp 4],
  (.seq
   (.region [] [] [0, 1] false [
     (none, .asg 4 (.c (.int .i64 0)) .copy)])
   (.seq
    (.seq
     (.region [] [] [0, 1, 7] false [
       (none, .mv 6 (.v 1)),
       (none, .bin 7 .leq (.v 6) (.c (.int .i64 1)))])
     (.cond (.v 7)
      (.seq
       (.region [] [] [0, 4] false [
         (none, .asg 4 (.c (.int .i64 0)) .copy)])
       (.ret [0, 4]))
      (.skip [0, 1])))
    (.seq
     (.region [(8, 0, false)] [] [0, 1, 5] false [
       (none, .mv 8 (.v 0)),
       (none, .call (some 9) 5 true [((.v 8), true)]),
       (none, .asg 5 (.v 9) .copy)])
     (.seq
      (.seq
       (.region [] [] [0, 1, 5, 11] false [
         (none, .mv 10 (.v 1)),
         (none, .bin 11 .gtr (.v 10) (.c (.int .i64 200)))])
       (.cond (.v 11)
        (.region [(14, 0, false)] [] [0, 1, 5] false [
          (none, .mv 12 (.v 5)),
          (none, .bin 13 .mul (.v 12) (.c (.int .i64 256))),
          (none, .mv 14 (.v 0)),
          (none, .call (some 15) 5 true [((.v 14), true)]),
          (none, .bin 16 .add (.v 13) (.v 15)),
          (none, .asg 5 (.v 16) .copy)])
        (.skip [0, 1, 5])))
      (.seq
       (.region [] [] [0, 4] false [
         (none, .mv 17 (.v 5)),
         (none, .mv 18 (.v 1)),
         (none, .bin 19 .rem (.v 17) (.v 18)),
         (none, .asg 4 (.v 19) .copy)])
       (.ret [0, 4]))))))⟩
def F731 : PFunc :=
 ⟨[true], [.tmp 2],
  (.seq
   (.region [] [] [0] false [
     (none, .asg 2 (.c (.sl true 4 [])) .copy)])
   (.seq
    (.region [] [] [0, 3] false [
      (none, .mksl 6 4 (.agg [(.int .i64 0), (.int .i64 0), (.int .i64 0), (.int .i64 0)]) 0 []),
      (none, .asg 3 (.v 6) .move)])
    (.seq
     (.seq
      (.region [(7, 0, false)] [] [0, 3, 4] false [
        (none, .mv 7 (.v 0)),
        (none, .call (some 8) 7 true [((.v 7), true), ((.c (.int .i64 6)), false)]),
        (none, .asg 4 (.v 8) .copy)])
      (.block 0
       (.loop
        (.seq
         (.seq
          (.region [] [] [0, 3, 4, 10] false [
            (none, .mv 9 (.v 4)),
            (none, .bin 10 .gtr (.v 9) (.c (.int .i64 0)))])
          (.cond (.v 10)
           (.skip [0, 3, 4])
           (.exit 0 [0, 3])))
         (.seq
          (.block 1
           (.seq
            (.region [(13, 0, false)] [] [0, 3, 4, 5] false [
              (none, .mv 13 (.v 0)),
              (none, .call (some 14) 7 true [((.v 13), true), ((.c (.int .i64 20)), false)]),
              (none, .build 15 [(.int .i64 0), (.int .i64 0), (.int .i64 0), (.int .i64 0)] [(0, 1, (.v 14), .copy)]),
              (none, .new 5 (.agg [(.int .i64 0), (.int .i64 0), (.int .i64 0), (.int .i64 0)])),
              (none, .store 4 (.v 5) (.v 15) .copy)])
            (.seq
             (.region [(19, 5, false), (16, 0, false)] [] [0, 3, 4, 5] false [
               (none, .mv 16 (.v 0)),
               (none, .call (some 17) 7 true [((.v 16), true), ((.c (.int .i64 7)), false)]),
               (none, .bin 18 .add (.c (.int .i64 1)) (.v 17)),
               (none, .fadr 19 1 1 (.v 5)),
               (none, .store 1 (.v 19) (.v 18) .copy)])
             (.seq
              (.region [(23, 5, false), (20, 0, false)] [] [0, 3, 4, 5] false [
                (none, .mv 20 (.v 0)),
                (none, .call (some 21) 7 true [((.v 20), true), ((.c (.int .i64 2)), false)]),
                (none, .bin 22 .add (.c (.int .i64 1)) (.v 21)),
                (none, .fadr 23 2 1 (.v 5)),
                (none, .store 1 (.v 23) (.v 22) .copy)])
              (.seq
               (.region [(26, 5, false), (24, 0, false)] [] [0, 3, 4, 5] false [
                 (none, .mv 24 (.v 0)),
                 (none, .call (some 25) 7 true [((.v 24), true), ((.c (.int .i64 5)), false)]),
                 (none, .fadr 26 3 1 (.v 5)),
                 (none, .store 1 (.v 26) (.v 25) .copy)])
               (.region [(27, 3, false)] [] [0, 3, 4] false [
                 (none, .mv 27 (.v 3)),
                 (none, .load 28 true 4 (.v 5) none),
                 (none, .mksl 29 4 (.agg [(.int .i64 0), (.int .i64 0), (.int .i64 0), (.int .i64 0)]) 1 [(0, (.v 28), .copy)]),
                 (none, .app 30 4 (.v 27) (.v 29) .move),
                 (none, .asg 3 (.v 30) .move)]))))))
          (.region [] [] [0, 3, 4] false [
            (none, .mv 11 (.v 4)),
            (none, .bin 12 .sub (.v 11) (.c (.int .i64 1))),
            (none, .asg 4 (.v 12) .copy)]))))))
     (.seq
      (.region [(31, 3, false)] [] [0, 2] false [
        (none, .mv 31 (.v 3)),
        (none, .asg 2 (.v 31) .move)])
      (.ret [0, 2])))))⟩
def F424 : PFunc :=
 ⟨[false], [.tmp 2],
  (.seq
   (.region [] [] [0] false [
     (none, .asg 2 (.c (.sl true 4 [])) .copy)])
   (.seq
    (.region [(3, 0, false)] [] [2] false [
      (none, .mv 3 (.v 0)),
      (none, .call (some 4) 603 true [((.v 3), false)]),
      (none, .call (some 5) 731 true [((.v 4), true)]),
      (none, .asg 2 (.v 5) .move)])
    (.ret [2])))⟩
def F602 : PFunc :=
 ⟨[false, false], [.tmp 4],
  (.seq
   (.region [] [] [0, 1] false [
     (none, .asg 4 (.c (.int .i64 0)) .copy)])
   (.seq
    (.region [] [] [0, 1, 5] false [
      (none, .mv 6 (.v 0)),
      (none, .mv 7 (.v 1)),
      (none, .bin 8 .quo (.v 6) (.v 7)),
      (none, .asg 5 (.v 8) .copy)])
    (.seq
     (.seq
      (.region [] [] [5, 12] false [
        (none, .mv 9 (.v 0)),
        (none, .mv 10 (.v 1)),
        (none, .bin 11 .rem (.v 9) (.v 10)),
        (none, .bin 12 .lss (.v 11) (.c (.int .i64 0)))])
      (.cond (.v 12)
       (.region [] [] [5] false [
         (none, .mv 13 (.v 5)),
         (none, .bin 14 .sub (.v 13) (.c (.int .i64 1))),
         (none, .asg 5 (.v 14) .copy)])
       (.skip [5])))
     (.seq
      (.region [] [] [4] false [
        (none, .mv 15 (.v 5)),
        (none, .asg 4 (.v 15) .copy)])
      (.ret [4])))))⟩
def F610 : PFunc :=
 ⟨[false, false], [.tmp 4],
  (.seq
   (.region [] [] [0, 1] false [
     (none, .asg 4 (.c (.int .i64 0)) .copy)])
   (.seq
    (.region [] [] [4] false [
      (none, .mv 5 (.v 0)),
      (none, .bin 6 .mul (.c (.int .i64 2)) (.v 5)),
      (none, .mv 7 (.v 1)),
      (none, .bin 8 .add (.v 6) (.v 7)),
      (none, .mv 9 (.v 1)),
      (none, .bin 10 .mul (.c (.int .i64 2)) (.v 9)),
      (none, .call (some 11) 602 false [((.v 8), false), ((.v 10), false)]),
      (none, .asg 4 (.v 11) .copy)])
    (.ret [4])))⟩
def F621 : PFunc :=
 ⟨[false, false, false], [.tmp 6],
  (.seq
   (.region [] [] [0, 1, 2] false [
     (none, .asg 6 (.c (.int .i64 0)) .copy)])
   (.seq
    (.region [] [] [6] false [
      (none, .mv 7 (.v 2)),
      (none, .mv 8 (.v 0)),
      (none, .bin 9 .mul (.v 7) (.v 8)),
      (none, .mv 10 (.v 1)),
      (none, .call (some 11) 610 false [((.v 9), false), ((.v 10), false)]),
      (none, .asg 6 (.v 11) .copy)])
    (.ret [6])))⟩
def F623 : PFunc :=
 ⟨[false, false, false], [.tmp 6],
  (.seq
   (.region [] [] [0, 1, 2] false [
     (none, .asg 6 (.c (.int .i64 0)) .copy)])
   (.seq
    (.region [] [] [6] false [
      (none, .mv 7 (.v 0)),
      (none, .mv 8 (.v 1)),
      (none, .mv 9 (.v 2)),
      (none, .call (some 10) 621 false [((.v 7), false), ((.v 8), false), ((.v 9), false)]),
      (none, .mv 11 (.v 0)),
      (none, .bin 12 .rem (.v 10) (.v 11)),
      (none, .asg 6 (.v 12) .copy)])
    (.ret [6])))⟩
def F644 : PFunc :=
 ⟨[false, false], [.tmp 4],
  (.seq
   (.region [] [] [0, 1] false [
     (none, .asg 4 (.c (.str [])) .copy)])
   (.seq
    (.region [] [] [0, 1, 5] false [
      (none, .mksl 7 1 (.int .u8 0) 0 []),
      (none, .asg 5 (.v 7) .move)])
    (.seq
     (.seq
      (.region [] [] [0, 1, 5, 6] false [
        (none, .asg 6 (.c (.int .i64 0)) .copy)])
      (.block 0
       (.loop
        (.seq
         (.seq
          (.region [] [] [0, 1, 5, 6, 10] false [
            (none, .mv 8 (.v 6)),
            (none, .mv 9 (.v 1)),
            (none, .bin 10 .lss (.v 8) (.v 9))])
          (.cond (.v 10)
           (.skip [0, 1, 5, 6])
           (.exit 0 [5])))
         (.seq
          (.block 1
           (.region [(13, 5, false)] [] [0, 1, 5, 6] false [
             (none, .mv 13 (.v 5)),
             (none, .mv 14 (.v 0)),
             (none, .mv 15 (.v 0)),
             (none, .len 16 true (.v 15)),
             (none, .mv 17 (.v 1)),
             (none, .mv 18 (.v 6)),
             (none, .call (some 19) 623 false [((.v 16), false), ((.v 17), false), ((.v 18), false)]),
             (none, .idx 20 (.v 14) (.v 19)),
             (none, .mksl 21 1 (.int .u8 0) 1 [(0, (.v 20), .copy)]),
             (none, .app 22 1 (.v 13) (.v 21) .move),
             (none, .asg 5 (.v 22) .move)]))
          (.region [] [] [0, 1, 5, 6] false [
            (none, .mv 11 (.v 6)),
            (none, .bin 12 .add (.v 11) (.c (.int .i64 1))),
            (none, .asg 6 (.v 12) .copy)]))))))
     (.seq
      (.region [(23, 5, false)] [] [4] false [
        (none, .mv 23 (.v 5)),
        (none, .b2s 24 (.v 23)),
        (none, .asg 4 (.v 24) .copy)])
      (.ret [4])))))⟩
def F642 : PFunc :=
 ⟨[true], [.tmp 2],
  (.seq
   (.region [] [] [0] false [
     (none, .asg 2 (.c (.str [])) .copy)])
   (.seq
    (.region [] [] [0, 3] false [
      (none, .mksl 6 1 (.int .u8 0) 0 []),
      (none, .asg 3 (.v 6) .move)])
    (.seq
     (.seq
      (.region [(7, 0, false)] [] [0, 3, 4] false [
        (none, .mv 7 (.v 0)),
        (none, .call (some 8) 7 true [((.v 7), true), ((.c (.int .i64 6)), false)]),
        (none, .bin 9 .add (.c (.int .i64 1)) (.v 8)),
        (none, .asg 4 (.v 9) .copy)])
      (.block 0
       (.loop
        (.seq
         (.seq
          (.region [] [] [0, 3, 4, 11] false [
            (none, .mv 10 (.v 4)),
            (none, .bin 11 .gtr (.v 10) (.c (.int .i64 0)))])
          (.cond (.v 11)
           (.skip [0, 3, 4])
           (.exit 0 [0, 3])))
         (.seq
          (.block 1
           (.region [(15, 0, false), (14, 3, false)] [] [0, 3, 4] false [
             (none, .mv 14 (.v 3)),
             (none, .mv 15 (.v 0)),
             (none, .call (some 16) 7 true [((.v 15), true), ((.c (.int .i64 3)), false)]),
             (none, .idx 17 (.c (.str [97, 98, 99])) (.v 16)),
             (none, .mksl 18 1 (.int .u8 0) 1 [(0, (.v 17), .copy)]),
             (none, .app 19 1 (.v 14) (.v 18) .move),
             (none, .asg 3 (.v 19) .move)]))
          (.region [] [] [0, 3, 4] false [
            (none, .mv 12 (.v 4)),
            (none, .bin 13 .sub (.v 12) (.c (.int .i64 1))),
            (none, .asg 4 (.v 13) .copy)]))))))
     (.seq
      (.region [(20, 3, false)] [] [0, 5] false [
        (none, .mv 20 (.v 3)),
        (none, .b2s 21 (.v 20)),
        (none, .asg 5 (.v 21) .copy)])
      (.seq
       (.seq
        (.region [(22, 0, false)] [] [0, 5, 23] false [
          (none, .mv 22 (.v 0)),
          (none, .call (some 23) 7 true [((.v 22), true), ((.c (.int .i64 4)), false)])])
        (.block 2
         (.seq
          (.region [] [] [0, 5, 23, 24] false [
            (none, .bin 25 .eql (.v 23) (.c (.int .i64 0))),
            (none, .asg 24 (.v 25) .copy)])
          (.cond (.v 24)
           (.region [] [] [0, 5] false [
             (none, .mv 26 (.v 5)),
             (none, .mv 27 (.v 5)),
             (none, .bin 28 .add (.v 26) (.v 27)),
             (none, .asg 5 (.v 28) .copy)])
           (.seq
            (.region [] [] [0, 5, 29] false [
              (none, .bin 30 .eql (.v 23) (.c (.int .i64 1))),
              (none, .asg 29 (.v 30) .copy)])
            (.cond (.v 29)
             (.seq
              (.region [(32, 0, false)] [] [0, 2] false [
                (none, .mv 31 (.v 5)),
                (none, .mv 32 (.v 0)),
                (none, .call (some 33) 7 true [((.v 32), true), ((.c (.int .i64 12)), false)]),
                (none, .bin 34 .add (.c (.int .i64 1)) (.v 33)),
                (none, .call (some 35) 644 false [((.v 31), false), ((.v 34), false)]),
                (none, .asg 2 (.v 35) .copy)])
              (.ret [0, 2]))
             (.skip [0, 5])))))))
       (.seq
        (.region [] [] [0, 2] false [
          (none, .mv 36 (.v 5)),
          (none, .asg 2 (.v 36) .copy)])
        (.ret [0, 2])))))))⟩
def F429 : PFunc :=
 ⟨[false], [.tmp 2],
  (.seq
   (.region [] [] [0] false [
     (none, .asg 2 (.c (.str [])) .copy)])
   (.seq
    (.region [(3, 0, false)] [] [2] false [
      (none, .mv 3 (.v 0)),
      (none, .call (some 4) 603 true [((.v 3), false)]),
      (none, .call (some 5) 642 true [((.v 4), true)]),
      (none, .asg 2 (.v 5) .copy)])
    (.ret [2])))⟩
def F430 : PFunc :=
 ⟨[false, false, false], [.tmp 6],
  (.seq
   (.region [] [] [0, 1, 2] false [
     (none, .asg 6 (.c (.sl true 1 [])) .copy)])
   (.seq
    (.region [(10, 0, false)] [] [1, 2, 7] false [
      (none, .mv 10 (.v 0)),
      (none, .call (some 11) 603 true [((.v 10), false)]),
      (none, .asg 7 (.v 11) .move)])
    (.seq
     (.region [] [] [1, 2, 7, 8] false [
       (none, .mksl 12 1 (.int .i64 0) 0 []),
       (none, .asg 8 (.v 12) .move)])
     (.seq
      (.seq
       (.region [] [] [1, 2, 7, 8, 9] false [
         (none, .asg 9 (.c (.int .i64 0)) .copy)])
       (.block 0
        (.loop
         (.seq
          (.seq
           (.region [] [] [1, 2, 7, 8, 9, 15] false [
             (none, .mv 13 (.v 9)),
             (none, .mv 14 (.v 1)),
             (none, .bin 15 .lss (.v 13) (.v 14))])
           (.cond (.v 15)
            (.skip [1, 2, 7, 8, 9])
            (.exit 0 [8])))
          (.seq
           (.block 1
            (.region [(19, 7, false), (18, 8, false)] [] [1, 2, 7, 8, 9] false [
              (none, .mv 18 (.v 8)),
              (none, .mv 19 (.v 7)),
              (none, .mv 20 (.v 2)),
              (none, .call (some 21) 7 true [((.v 19), true), ((.v 20), false)]),
              (none, .mksl 22 1 (.int .i64 0) 1 [(0, (.v 21), .copy)]),
              (none, .app 23 1 (.v 18) (.v 22) .move),
              (none, .asg 8 (.v 23) .move)]))
           (.region [] [] [1, 2, 7, 8, 9] false [
             (none, .mv 16 (.v 9)),
             (none, .bin 17 .add (.v 16) (.c (.int .i64 1))),
             (none, .asg 9 (.v 17) .copy)]))))))
      (.seq
       (.region [(24, 8, false)] [] [6] false [
         (none, .mv 24 (.v 8)),
         (none, .asg 6 (.v 24) .move)])
       (.ret [6]))))))⟩
def F432 : PFunc :=
 ⟨[false, false], [.tmp 4],
  (.seq
   (.region [] [] [0, 1] false [
     (none, .asg 4 (.c (.sl true 1 [])) .copy)])
   (.seq
    (.region [(8, 0, false)] [] [1, 5] false [
      (none, .mv 8 (.v 0)),
      (none, .call (some 9) 603 true [((.v 8), false)]),
      (none, .asg 5 (.v 9) .move)])
    (.seq
     (.region [] [] [1, 5, 6] false [
       (none, .mksl 10 1 (.int .i64 0) 0 []),
       (none, .asg 6 (.v 10) .move)])
     (.seq
      (.seq
       (.region [] [] [1, 5, 6, 7] false [
         (none, .asg 7 (.c (.int .i64 0)) .copy)])
       (.block 0
        (.loop
         (.seq
          (.seq
           (.region [(12, 1, false)] [] [1, 5, 6, 7, 14] false [
             (none, .mv 11 (.v 7)),
             (none, .mv 12 (.v 1)),
             (none, .len 13 false (.v 12)),
             (none, .bin 14 .lss (.v 11) (.v 13))])
           (.cond (.v 14)
            (.skip [1, 5, 6, 7])
            (.exit 0 [6])))
          (.seq
           (.block 1
            (.region [(22, 1, false), (21, 1, false), (19, 1, false), (18, 5, false), (17, 6, false)] [] [1, 5, 6, 7] false [
              (none, .mv 17 (.v 6)),
              (none, .mv 18 (.v 5)),
              (none, .mv 19 (.v 1)),
              (none, .mv 20 (.v 7)),
              (none, .iadr 21 4 (.v 19) (.v 20)),
              (none, .fadr 22 3 1 (.v 21)),
              (none, .load 23 false 1 (.v 22) none),
              (none, .bin 24 .add (.v 23) (.c (.int .i64 1))),
              (none, .call (some 25) 7 true [((.v 18), true), ((.v 24), false)]),
              (none, .mksl 26 1 (.int .i64 0) 1 [(0, (.v 25), .copy)]),
              (none, .app 27 1 (.v 17) (.v 26) .move),
              (none, .asg 6 (.v 27) .move)]))
           (.region [] [] [1, 5, 6, 7] false [
             (none, .mv 15 (.v 7)),
             (none, .bin 16 .add (.v 15) (.c (.int .i64 1))),
             (none, .asg 7 (.v 16) .copy)]))))))
      (.seq
       (.region [(28, 6, false)] [] [4] false [
         (none, .mv 28 (.v 6)),
         (none, .asg 4 (.v 28) .move)])
       (.ret [4]))))))⟩
def F753 : PFunc :=
 ⟨[true], [.tmp 2],
  (.seq
   (.region [] [] [0] false [
     (none, .asg 2 (.c (.str [])) .copy)])
   (.seq
    (.region [] [] [0, 3] false [
      (none, .mksl 6 1 (.int .u8 0) 0 []),
      (none, .asg 3 (.v 6) .move)])
    (.seq
     (.region [(7, 0, false)] [] [0, 3, 4] false [
       (none, .mv 7 (.v 0)),
       (none, .call (some 8) 7 true [((.v 7), true), ((.c (.int .i64 6)), false)]),
       (none, .bin 9 .add (.c (.int .i64 2)) (.v 8)),
       (none, .asg 4 (.v 9) .copy)])
     (.seq
      (.seq
       (.region [(10, 0, false)] [] [0, 3, 4, 5] false [
         (none, .mv 10 (.v 0)),
         (none, .call (some 11) 7 true [((.v 10), true), ((.c (.int .i64 20)), false)]),
         (none, .asg 5 (.v 11) .copy)])
       (.block 0
        (.loop
         (.seq
          (.seq
           (.region [] [] [0, 3, 4, 5, 13] false [
             (none, .mv 12 (.v 5)),
             (none, .bin 13 .gtr (.v 12) (.c (.int .i64 0)))])
           (.cond (.v 13)
            (.skip [0, 3, 4, 5])
            (.exit 0 [0, 3])))
          (.seq
           (.block 1
            (.region [(17, 0, false), (16, 3, false)] [] [0, 3, 4, 5] false [
              (none, .mv 16 (.v 3)),
              (none, .mv 17 (.v 0)),
              (none, .mv 18 (.v 4)),
              (none, .call (some 19) 7 true [((.v 17), true), ((.v 18), false)]),
              (none, .bin 20 .add (.c (.int .i64 97)) (.v 19)),
              (none, .conv 21 .u8 (.v 20)),
              (none, .mksl 22 1 (.int .u8 0) 1 [(0, (.v 21), .copy)]),
              (none, .app 23 1 (.v 16) (.v 22) .move),
              (none, .asg 3 (.v 23) .move)]))
           (.region [] [] [0, 3, 4, 5] false [
             (none, .mv 14 (.v 5)),
             (none, .bin 15 .sub (.v 14) (.c (.int .i64 1))),
             (none, .asg 5 (.v 15) .copy)]))))))
      (.seq
       (.region [(24, 3, false)] [] [0, 2] false [
         (none, .mv 24 (.v 3)),
         (none, .b2s 25 (.v 24)),
         (none, .asg 2 (.v 25) .copy)])
       (.ret [0, 2]))))))⟩
def F433 : PFunc :=
 ⟨[false], [.tmp 2],
  (.seq
   (.region [] [] [0] false [
     (none, .asg 2 (.c (.str [])) .copy)])
   (.seq
    (.region [(3, 0, false)] [] [2] false [
      (none, .mv 3 (.v 0)),
      (none, .call (some 4) 603 true [((.v 3), false)]),
      (none, .call (some 5) 753 true [((.v 4), true)]),
      (none, .asg 2 (.v 5) .copy)])
    (.ret [2])))⟩
def F605 : PFunc :=
 ⟨[false, false, false], [.tmp 6],
  (.seq
   (.region [] [] [0, 1, 2] false [
     (none, .asg 6 (.c (.bool false)) .copy)])
   (.seq
    (.region [] [] [6] false [
      (none, .mv 7 (.v 0)),
      (none, .mv 8 (.v 1)),
      (none, .bin 9 .geq (.v 7) (.v 8)),
      (none, .mv 10 (.v 9)),
      (some (10, true), .mv 11 (.v 0)),
      (some (10, true), .mv 12 (.v 2)),
      (some (10, true), .bin 13 .leq (.v 11) (.v 12)),
      (none, .pick 14 (.v 10) (.v 13) (.c (.bool false))),
      (none, .asg 6 (.v 14) .copy)])
    (.ret [6])))⟩
def F643 : PFunc :=
 ⟨[false], [.tmp 2],
  (.seq
   (.region [] [] [0] false [
     (none, .asg 2 (.c (.bool false)) .copy)])
   (.seq
    (.region [] [] [2] false [
      (none, .mv 3 (.v 0)),
      (none, .call (some 4) 605 false [((.v 3), false), ((.c (.int .i64 1)), false), ((.c (.int .i64 24)), false)]),
      (none, .asg 2 (.v 4) .copy)])
    (.ret [2])))⟩
def F645 : PFunc :=
 ⟨[false], [.tmp 2],
  (.seq
   (.region [] [] [0] false [
     (none, .asg 2 (.c (.bool false)) .copy)])
   (.seq
    (.seq
     (.region [] [] [0, 3] false [
       (none, .asg 3 (.c (.int .i64 0)) .copy)])
     (.block 0
      (.loop
       (.seq
        (.seq
         (.region [] [] [0, 3, 7] false [
           (none, .mv 4 (.v 3)),
           (none, .mv 5 (.v 0)),
           (none, .len 6 true (.v 5)),
           (none, .bin 7 .lss (.v 4) (.v 6))])
         (.cond (.v 7)
          (.skip [0, 3])
          (.exit 0 [0])))
        (.seq
         (.block 1
          (.seq
           (.region [] [] [0, 3, 19] false [
             (none, .mv 10 (.v 0)),
             (none, .mv 11 (.v 3)),
             (none, .idx 12 (.v 10) (.v 11)),
             (none, .bin 13 .lss (.v 12) (.c (.int .u8 97))),
             (none, .mv 14 (.v 13)),
             (some (14, false), .mv 15 (.v 0)),
             (some (14, false), .mv 16 (.v 3)),
             (some (14, false), .idx 17 (.v 15) (.v 16)),
             (some (14, false), .bin 18 .gtr (.v 17) (.c (.int .u8 122))),
             (none, .pick 19 (.v 14) (.c (.bool true)) (.v 18))])
           (.cond (.v 19)
            (.seq
             (.region [] [] [2] false [
               (none, .asg 2 (.c (.bool false)) .copy)])
             (.ret [2]))
            (.skip [0, 3]))))
         (.region [] [] [0, 3] false [
           (none, .mv 8 (.v 3)),
           (none, .bin 9 .add (.v 8) (.c (.int .i64 1))),
           (none, .asg 3 (.v 9) .copy)]))))))
    (.seq
     (.region [] [] [2] false [
       (none, .mv 20 (.v 0)),
       (none, .len 21 true (.v 20)),
       (none, .call (some 22) 605 false [((.v 21), false), ((.c (.int .i64 1)), false), ((.c (.int .i64 24)), false)]),
       (none, .asg 2 (.v 22) .copy)])
     (.ret [2]))))⟩
def F640 : PFunc :=
 ⟨[false, false], [.tmp 4],
  (.seq
   (.region [] [] [0, 1] false [
     (none, .asg 4 (.c (.int .i64 0)) .copy)])
   (.seq
    (.seq
     (.region [] [] [1, 7] false [
       (none, .mv 5 (.v 0)),
       (none, .call (some 6) 645 false [((.v 5), false)]),
       (none, .un 7 .not (.v 6))])
     (.cond (.v 7)
      (.seq
       (.region [] [] [4] false [
         (none, .asg 4 (.c (.int .i64 1)) .copy)])
       (.ret [4]))
      (.skip [1])))
    (.seq
     (.seq
      (.region [] [] [10] false [
        (none, .mv 8 (.v 1)),
        (none, .call (some 9) 643 false [((.v 8), false)]),
        (none, .un 10 .not (.v 9))])
      (.cond (.v 10)
       (.seq
        (.region [] [] [4] false [
          (none, .asg 4 (.c (.int .i64 2)) .copy)])
        (.ret [4]))
       (.skip [])))
     (.seq
      (.region [] [] [4] false [
        (none, .asg 4 (.c (.int .i64 0)) .copy)])
      (.ret [4])))))⟩
def F641 : PFunc :=
 ⟨[false, false], [.tmp 4, .tmp 5],
  (.seq
   (.region [] [] [0, 1] false [
     (none, .asg 4 (.c (.str [])) .copy),
     (none, .asg 5 (.c (.bool false)) .copy)])
   (.seq
    (.region [] [] [0, 1, 6] false [
      (none, .mv 11 (.v 1)),
      (none, .make 12 1 (.int .u8 0) (.v 11)),
      (none, .asg 6 (.v 12) .move)])
    (.seq
     (.region [] [] [0, 1, 6, 7] false [
       (none, .mv 13 (.v 0)),
       (none, .len 14 true (.v 13)),
       (none, .asg 7 (.v 14) .copy)])
     (.seq
      (.seq
       (.region [] [] [0, 1, 6, 7, 8] false [
         (none, .asg 8 (.c (.int .i64 0)) .copy)])
       (.block 0
        (.loop
         (.seq
          (.seq
           (.region [] [] [0, 1, 6, 7, 8, 17] false [
             (none, .mv 15 (.v 8)),
             (none, .mv 16 (.v 7)),
             (none, .bin 17 .lss (.v 15) (.v 16))])
           (.cond (.v 17)
            (.skip [0, 1, 6, 7, 8])
            (.exit 0 [6])))
          (.seq
           (.block 1
            (.seq
             (.region [] [] [0, 1, 6, 7, 8, 9] false [
               (none, .mv 20 (.v 1)),
               (none, .mv 21 (.v 7)),
               (none, .mv 22 (.v 8)),
               (none, .call (some 23) 623 false [((.v 20), false), ((.v 21), false), ((.v 22), false)]),
               (none, .asg 9 (.v 23) .copy)])
             (.seq
              (.seq
               (.region [(32, 6, false), (30, 6, false), (26, 6, false), (24, 6, false)] [] [0, 1, 6, 7, 8, 9, 38] true [
                 (none, .mvr 24 6),
                 (none, .mv 25 (.v 9)),
                 (none, .iadr 26 1 (.v 24) (.v 25)),
                 (none, .load 27 false 1 (.v 26) none),
                 (none, .bin 28 .neq (.v 27) (.c (.int .u8 0))),
                 (none, .mv 29 (.v 28)),
                 (some (29, true), .mvr 30 6),
                 (some (29, true), .mv 31 (.v 9)),
                 (some (29, true), .iadr 32 1 (.v 30) (.v 31)),
                 (some (29, true), .load 33 false 1 (.v 32) none),
                 (some (29, true), .mv 34 (.v 0)),
                 (some (29, true), .mv 35 (.v 8)),
                 (some (29, true), .idx 36 (.v 34) (.v 35)),
                 (some (29, true), .bin 37 .neq (.v 33) (.v 36)),
                 (none, .pick 38 (.v 29) (.v 37) (.c (.bool false)))])
               (.cond (.v 38)
                (.seq
                 (.region [] [] [4, 5] false [
                   (none, .asg 4 (.c (.str [])) .copy),
                   (none, .asg 5 (.c (.bool false)) .copy)])
                 (.ret [4, 5]))
                (.skip [0, 1, 6, 7, 8, 9])))
              (.region [(44, 6, false), (39, 6, false)] [] [0, 1, 6, 7, 8] false [
                (none, .mv 39 (.v 6)),
                (none, .mv 40 (.v 9)),
                (none, .mv 41 (.v 0)),
                (none, .mv 42 (.v 8)),
                (none, .idx 43 (.v 41) (.v 42)),
                (none, .iadr 44 1 (.v 39) (.v 40)),
                (none, .store 1 (.v 44) (.v 43) .copy)]))))
           (.region [] [] [0, 1, 6, 7, 8] false [
             (none, .mv 18 (.v 8)),
             (none, .bin 19 .add (.v 18) (.c (.int .i64 1))),
             (none, .asg 8 (.v 19) .copy)]))))))
      (.seq
       (.seq
        (.region [] [] [6, 10] false [
          (none, .asg 10 (.c (.int .i64 1)) .copy)])
        (.block 2
         (.loop
          (.seq
           (.seq
            (.region [(46, 6, false)] [] [6, 10, 48] false [
              (none, .mv 45 (.v 10)),
              (none, .mv 46 (.v 6)),
              (none, .len 47 false (.v 46)),
              (none, .bin 48 .lss (.v 45) (.v 47))])
            (.cond (.v 48)
             (.skip [6, 10])
             (.exit 2 [6])))
           (.seq
            (.block 3
             (.seq
              (.region [(53, 6, false), (51, 6, false)] [] [6, 10, 55] false [
                (none, .mv 51 (.v 6)),
                (none, .mv 52 (.v 10)),
                (none, .iadr 53 1 (.v 51) (.v 52)),
                (none, .load 54 false 1 (.v 53) none),
                (none, .bin 55 .eql (.v 54) (.c (.int .u8 0)))])
              (.cond (.v 55)
               (.region [(63, 6, false), (61, 6, false), (58, 6, false), (56, 6, false)] [] [6, 10] false [
                 (none, .mv 56 (.v 6)),
                 (none, .mv 57 (.v 10)),
                 (none, .mv 58 (.v 6)),
                 (none, .mv 59 (.v 10)),
                 (none, .bin 60 .sub (.v 59) (.c (.int .i64 1))),
                 (none, .iadr 61 1 (.v 58) (.v 60)),
                 (none, .load 62 false 1 (.v 61) none),
                 (none, .iadr 63 1 (.v 56) (.v 57)),
                 (none, .store 1 (.v 63) (.v 62) .copy)])
               (.skip [6, 10]))))
            (.region [] [] [6, 10] false [
              (none, .mv 49 (.v 10)),
              (none, .bin 50 .add (.v 49) (.c (.int .i64 1))),
              (none, .asg 10 (.v 50) .copy)]))))))
       (.seq
        (.region [(64, 6, false)] [] [4, 5] false [
          (none, .mv 64 (.v 6)),
          (none, .b2s 65 (.v 64)),
          (none, .asg 4 (.v 65) .copy),
          (none, .asg 5 (.c (.bool true)) .copy)])
        (.ret [4, 5])))))))⟩
def F453 : PFunc :=
 ⟨[false, false], [.tmp 4, .tmp 5],
  (.seq
   (.region [] [] [0, 1] false [
     (none, .asg 4 (.c (.str [])) .copy),
     (none, .asg 5 (.c (.int .i64 0)) .copy)])
   (.seq
    (.region [] [] [0, 1, 6] false [
      (none, .mv 9 (.v 0)),
      (none, .mv 10 (.v 1)),
      (none, .call (some 11) 640 false [((.v 9), false), ((.v 10), false)]),
      (none, .asg 6 (.v 11) .copy)])
    (.seq
     (.seq
      (.region [] [] [0, 1, 6, 13] false [
        (none, .mv 12 (.v 6)),
        (none, .bin 13 .neq (.v 12) (.c (.int .i64 0)))])
      (.cond (.v 13)
       (.seq
        (.region [] [] [4, 5] false [
          (none, .mv 14 (.v 6)),
          (none, .asg 4 (.c (.str [])) .copy),
          (none, .asg 5 (.v 14) .copy)])
        (.ret [4, 5]))
       (.skip [0, 1])))
     (.seq
      (.region [] [] [7, 8] false [
        (none, .mv 16 (.v 0)),
        (none, .mv 17 (.v 1)),
        (none, .call (some 18) 641 false [((.v 16), false), ((.v 17), false)]),
        (none, .asg 15 (.v 18) .copy),
        (none, .extp 19 (.v 15) 0),
        (none, .extp 20 (.v 15) 1),
        (none, .asg 7 (.v 19) .copy),
        (none, .asg 8 (.v 20) .copy)])
      (.seq
       (.seq
        (.region [] [] [7, 22] false [
          (none, .mv 21 (.v 8)),
          (none, .un 22 .not (.v 21))])
        (.cond (.v 22)
         (.seq
          (.region [] [] [4, 5] false [
            (none, .asg 4 (.c (.str [])) .copy),
            (none, .asg 5 (.c (.int .i64 9)) .copy)])
          (.ret [4, 5]))
         (.skip [7])))
       (.seq
        (.region [] [] [4, 5] false [
          (none, .mv 23 (.v 7)),
          (none, .asg 4 (.v 23) .copy),
          (none, .asg 5 (.c (.int .i64 0)) .copy)])
        (.ret [4, 5])))))))⟩
def F756 : PFunc :=
 ⟨[false], [.tmp 2],
  (.seq
   (.region [] [] [0] false [
     (none, .asg 2 (.c (.bool false)) .copy)])
   (.seq
    (.seq
     (.region [] [] [0, 3] false [
       (none, .asg 3 (.c (.int .i64 0)) .copy)])
     (.block 0
      (.loop
       (.seq
        (.seq
         (.region [] [] [0, 3, 7] false [
           (none, .mv 4 (.v 3)),
           (none, .mv 5 (.v 0)),
           (none, .len 6 true (.v 5)),
           (none, .bin 7 .lss (.v 4) (.v 6))])
         (.cond (.v 7)
          (.skip [0, 3])
          (.exit 0 [0])))
        (.seq
         (.block 1
          (.seq
           (.region [] [] [0, 3, 19] false [
             (none, .mv 10 (.v 0)),
             (none, .mv 11 (.v 3)),
             (none, .idx 12 (.v 10) (.v 11)),
             (none, .bin 13 .lss (.v 12) (.c (.int .u8 97))),
             (none, .mv 14 (.v 13)),
             (some (14, false), .mv 15 (.v 0)),
             (some (14, false), .mv 16 (.v 3)),
             (some (14, false), .idx 17 (.v 15) (.v 16)),
             (some (14, false), .bin 18 .gtr (.v 17) (.c (.int .u8 122))),
             (none, .pick 19 (.v 14) (.c (.bool true)) (.v 18))])
           (.cond (.v 19)
            (.seq
             (.region [] [] [2] false [
               (none, .asg 2 (.c (.bool false)) .copy)])
             (.ret [2]))
            (.skip [0, 3]))))
         (.region [] [] [0, 3] false [
           (none, .mv 8 (.v 3)),
           (none, .bin 9 .add (.v 8) (.c (.int .i64 1))),
           (none, .asg 3 (.v 9) .copy)]))))))
    (.seq
     (.region [] [] [2] false [
       (none, .mv 20 (.v 0)),
       (none, .len 21 true (.v 20)),
       (none, .bin 22 .leq (.v 21) (.c (.int .i64 40))),
       (none, .asg 2 (.v 22) .copy)])
     (.ret [2]))))⟩
def F752 : PFunc :=
 ⟨[false, false], [.tmp 4],
  (.seq
   (.region [] [] [0, 1] false [
     (none, .asg 4 (.c (.int .i64 0)) .copy)])
   (.seq
    (.seq
     (.region [] [] [1, 7] false [
       (none, .mv 5 (.v 0)),
       (none, .call (some 6) 756 false [((.v 5), false)]),
       (none, .un 7 .not (.v 6))])
     (.cond (.v 7)
      (.seq
       (.region [] [] [4] false [
         (none, .asg 4 (.c (.int .i64 1)) .copy)])
       (.ret [4]))
      (.skip [1])))
    (.seq
     (.seq
      (.region [] [] [10] false [
        (none, .mv 8 (.v 1)),
        (none, .call (some 9) 605 false [((.v 8), false), ((.c (.int .i64 1)), false), ((.c (.int .i64 6)), false)]),
        (none, .un 10 .not (.v 9))])
      (.cond (.v 10)
       (.seq
        (.region [] [] [4] false [
          (none, .asg 4 (.c (.int .i64 2)) .copy)])
        (.ret [4]))
       (.skip [])))
     (.seq
      (.region [] [] [4] false [
        (none, .asg 4 (.c (.int .i64 0)) .copy)])
      (.ret [4])))))⟩
def F755 : PFunc :=
 ⟨[false, false, false], [.tmp 6],
  (.seq
   (.region [] [] [0, 1, 2] false [
     (none, .asg 6 (.c (.int .i64 0)) .copy)])
   (.seq
    (.region [] [] [0, 2, 7] false [
      (none, .mv 10 (.v 1)),
      (none, .make 11 1 (.int .u8 0) (.v 10)),
      (none, .asg 7 (.v 11) .move)])
    (.seq
     (.region [] [] [0, 2, 7, 8] false [
       (none, .asg 8 (.c (.int .i64 0)) .copy)])
     (.seq
      (.seq
       (.region [] [] [0, 2, 7, 8, 9] false [
         (none, .asg 9 (.c (.int .i64 0)) .copy)])
       (.block 0
        (.loop
         (.seq
          (.seq
           (.region [] [] [0, 2, 7, 8, 9, 15] false [
             (none, .mv 12 (.v 9)),
             (none, .mv 13 (.v 0)),
             (none, .len 14 true (.v 13)),
             (none, .bin 15 .lss (.v 12) (.v 14))])
           (.cond (.v 15)
            (.skip [0, 2, 7, 8, 9])
            (.exit 0 [8])))
          (.seq
           (.block 1
            (.seq
             (.seq
              (.region [(23, 7, false), (21, 2, false), (19, 2, false), (18, 7, false)] [] [0, 2, 7, 8, 9, 28] true [
                (none, .mvr 18 7),
                (none, .mv 19 (.v 2)),
                (none, .mv 20 (.v 9)),
                (none, .iadr 21 1 (.v 19) (.v 20)),
                (none, .load 22 false 1 (.v 21) none),
                (none, .iadr 23 1 (.v 18) (.v 22)),
                (none, .load 24 false 1 (.v 23) none),
                (none, .mv 25 (.v 0)),
                (none, .mv 26 (.v 9)),
                (none, .idx 27 (.v 25) (.v 26)),
                (none, .bin 28 .neq (.v 24) (.v 27))])
              (.cond (.v 28)
               (.region [] [] [0, 2, 7, 8, 9] false [
                 (none, .mv 29 (.v 8)),
                 (none, .bin 30 .add (.v 29) (.c (.int .i64 1))),
                 (none, .asg 8 (.v 30) .copy)])
               (.skip [0, 2, 7, 8, 9])))
             (.region [(39, 7, false), (34, 2, false), (32, 2, false), (31, 7, false)] [] [0, 2, 7, 8, 9] true [
               (none, .mvr 31 7),
               (none, .mv 32 (.v 2)),
               (none, .mv 33 (.v 9)),
               (none, .iadr 34 1 (.v 32) (.v 33)),
               (none, .load 35 false 1 (.v 34) none),
               (none, .mv 36 (.v 0)),
               (none, .mv 37 (.v 9)),
               (none, .idx 38 (.v 36) (.v 37)),
               (none, .iadr 39 1 (.v 31) (.v 35)),
               (none, .store 1 (.v 39) (.v 38) .copy)])))
           (.region [] [] [0, 2, 7, 8, 9] false [
             (none, .mv 16 (.v 9)),
             (none, .bin 17 .add (.v 16) (.c (.int .i64 1))),
             (none, .asg 9 (.v 17) .copy)]))))))
      (.seq
       (.region [] [] [6] false [
         (none, .mv 40 (.v 8)),
         (none, .asg 6 (.v 40) .copy)])
       (.ret [6]))))))⟩
def F544 : PFunc :=
 ⟨[false, false, false], [.tmp 6, .tmp 7],
  (.seq
   (.region [] [] [0, 1, 2] false [
     (none, .asg 6 (.c (.int .i64 0)) .copy),
     (none, .asg 7 (.c (.int .i64 0)) .copy)])
   (.seq
    (.region [] [] [0, 1, 2, 8] false [
      (none, .mv 10 (.v 0)),
      (none, .mv 11 (.v 1)),
      (none, .call (some 12) 752 false [((.v 10), false), ((.v 11), false)]),
      (none, .asg 8 (.v 12) .copy)])
    (.seq
     (.seq
      (.region [] [] [0, 1, 2, 8, 14] false [
        (none, .mv 13 (.v 8)),
        (none, .bin 14 .neq (.v 13) (.c (.int .i64 0)))])
      (.cond (.v 14)
       (.seq
        (.region [] [] [6, 7] false [
          (none, .mv 15 (.v 8)),
          (none, .asg 6 (.c (.int .i64 0)) .copy),
          (none, .asg 7 (.v 15) .copy)])
        (.ret [6, 7]))
       (.skip [0, 1, 2])))
     (.seq
      (.seq
       (.region [(16, 2, false)] [] [0, 1, 2, 20] false [
         (none, .mv 16 (.v 2)),
         (none, .len 17 false (.v 16)),
         (none, .mv 18 (.v 0)),
         (none, .len 19 true (.v 18)),
         (none, .bin 20 .neq (.v 17) (.v 19))])
       (.cond (.v 20)
        (.seq
         (.region [] [] [6, 7] false [
           (none, .asg 6 (.c (.int .i64 0)) .copy),
           (none, .asg 7 (.c (.int .i64 2)) .copy)])
         (.ret [6, 7]))
        (.skip [0, 1, 2])))
      (.seq
       (.seq
        (.region [] [] [0, 1, 2, 9] false [
          (none, .asg 9 (.c (.int .i64 0)) .copy)])
        (.block 0
         (.loop
          (.seq
           (.seq
            (.region [(22, 2, false)] [] [0, 1, 2, 9, 24] false [
              (none, .mv 21 (.v 9)),
              (none, .mv 22 (.v 2)),
              (none, .len 23 false (.v 22)),
              (none, .bin 24 .lss (.v 21) (.v 23))])
            (.cond (.v 24)
             (.skip [0, 1, 2, 9])
             (.exit 0 [0, 1, 2])))
           (.seq
            (.block 1
             (.seq
              (.region [(29, 2, false), (27, 2, false)] [] [0, 1, 2, 9, 34] false [
                (none, .mv 27 (.v 2)),
                (none, .mv 28 (.v 9)),
                (none, .iadr 29 1 (.v 27) (.v 28)),
                (none, .load 30 false 1 (.v 29) none),
                (none, .mv 31 (.v 1)),
                (none, .bin 32 .sub (.v 31) (.c (.int .i64 1))),
                (none, .call (some 33) 605 false [((.v 30), false), ((.c (.int .i64 0)), false), ((.v 32), false)]),
                (none, .un 34 .not (.v 33))])
              (.cond (.v 34)
               (.seq
                (.region [] [] [6, 7] false [
                  (none, .asg 6 (.c (.int .i64 0)) .copy),
                  (none, .asg 7 (.c (.int .i64 2)) .copy)])
                (.ret [6, 7]))
               (.skip [0, 1, 2, 9]))))
            (.region [] [] [0, 1, 2, 9] false [
              (none, .mv 25 (.v 9)),
              (none, .bin 26 .add (.v 25) (.c (.int .i64 1))),
              (none, .asg 9 (.v 26) .copy)]))))))
       (.seq
        (.region [(37, 2, false)] [] [6, 7] false [
          (none, .mv 35 (.v 0)),
          (none, .mv 36 (.v 1)),
          (none, .mv 37 (.v 2)),
          (none, .call (some 38) 755 false [((.v 35), false), ((.v 36), false), ((.v 37), false)]),
          (none, .asg 6 (.v 38) .copy),
          (none, .asg 7 (.c (.int .i64 0)) .copy)])
        (.ret [6, 7])))))))⟩
def F606 : PFunc :=
 ⟨[false, false], [.tmp 4],
  (.seq
   (.region [] [] [0, 1] false [
     (none, .asg 4 (.c (.int .i64 0)) .copy)])
   (.seq
    (.seq
     (.region [] [] [0, 1, 7] false [
       (none, .mv 5 (.v 0)),
       (none, .mv 6 (.v 1)),
       (none, .bin 7 .gtr (.v 5) (.v 6))])
     (.cond (.v 7)
      (.seq
       (.region [] [] [4] false [
         (none, .mv 8 (.v 0)),
         (none, .asg 4 (.v 8) .copy)])
       (.ret [4]))
      (.skip [1])))
    (.seq
     (.region [] [] [4] false [
       (none, .mv 9 (.v 1)),
       (none, .asg 4 (.v 9) .copy)])
     (.ret [4]))))⟩
def F730 : PFunc :=
 ⟨[false, false], [.tmp 4],
  (.seq
   (.region [] [] [0, 1] false [
     (none, .asg 4 (.c (.int .i64 0)) .copy)])
   (.seq
    (.region [] [] [0, 1, 5] false [
      (none, .asg 5 (.c (.int .i64 0)) .copy)])
    (.seq
     (.seq
      (.region [] [] [0, 1, 5, 6] false [
        (none, .asg 6 (.c (.int .i64 0)) .copy)])
      (.block 0
       (.loop
        (.seq
         (.seq
          (.region [(8, 0, false)] [] [0, 1, 5, 6, 10] false [
            (none, .mv 7 (.v 6)),
            (none, .mv 8 (.v 0)),
            (none, .len 9 false (.v 8)),
            (none, .bin 10 .lss (.v 7) (.v 9))])
          (.cond (.v 10)
           (.skip [0, 1, 5, 6])
           (.exit 0 [5])))
         (.seq
          (.block 1
           (.seq
            (.region [(27, 0, false), (26, 0, false), (24, 0, false), (22, 0, false), (21, 0, false), (19, 0, false), (17, 0, false), (16, 0, false), (14, 0, false)] [] [0, 1, 5, 6, 31] true [
              (none, .mv 13 (.v 1)),
              (none, .mv 14 (.v 0)),
              (none, .mv 15 (.v 6)),
              (none, .iadr 16 4 (.v 14) (.v 15)),
              (none, .fadr 17 0 1 (.v 16)),
              (none, .load 18 false 1 (.v 17) none),
              (none, .mv 19 (.v 0)),
              (none, .mv 20 (.v 6)),
              (none, .iadr 21 4 (.v 19) (.v 20)),
              (none, .fadr 22 0 1 (.v 21)),
              (none, .load 23 false 1 (.v 22) none),
              (none, .mv 24 (.v 0)),
              (none, .mv 25 (.v 6)),
              (none, .iadr 26 4 (.v 24) (.v 25)),
              (none, .fadr 27 1 1 (.v 26)),
              (none, .load 28 false 1 (.v 27) none),
              (none, .bin 29 .add (.v 23) (.v 28)),
              (none, .bin 30 .sub (.v 29) (.c (.int .i64 1))),
              (none, .call (some 31) 605 false [((.v 13), false), ((.v 18), false), ((.v 30), false)])])
            (.cond (.v 31)
             (.region [(36, 0, false), (35, 0, false), (33, 0, false)] [] [0, 1, 5, 6] false [
               (none, .mv 32 (.v 5)),
               (none, .mv 33 (.v 0)),
               (none, .mv 34 (.v 6)),
               (none, .iadr 35 4 (.v 33) (.v 34)),
               (none, .fadr 36 2 1 (.v 35)),
               (none, .load 37 false 1 (.v 36) none),
               (none, .bin 38 .add (.v 32) (.v 37)),
               (none, .asg 5 (.v 38) .copy)])
             (.skip [0, 1, 5, 6]))))
          (.region [] [] [0, 1, 5, 6] false [
            (none, .mv 11 (.v 6)),
            (none, .bin 12 .add (.v 11) (.c (.int .i64 1))),
            (none, .asg 6 (.v 12) .copy)]))))))
     (.seq
      (.region [] [] [4] false [
        (none, .mv 39 (.v 5)),
        (none, .asg 4 (.v 39) .copy)])
      (.ret [4])))))⟩
def F732 : PFunc :=
 ⟨[false], [.tmp 2],
  (.seq
   (.region [] [] [0] false [
     (none, .asg 2 (.c (.int .i64 0)) .copy)])
   (.seq
    (.region [] [] [0, 3] false [
      (none, .asg 3 (.c (.int .i64 0)) .copy)])
    (.seq
     (.seq
      (.region [] [] [0, 3, 4] false [
        (none, .asg 4 (.c (.int .i64 0)) .copy)])
      (.block 0
       (.loop
        (.seq
         (.seq
          (.region [(6, 0, false)] [] [0, 3, 4, 8] false [
            (none, .mv 5 (.v 4)),
            (none, .mv 6 (.v 0)),
            (none, .len 7 false (.v 6)),
            (none, .bin 8 .lss (.v 5) (.v 7))])
          (.cond (.v 8)
           (.skip [0, 3, 4])
           (.exit 0 [3])))
         (.seq
          (.block 1
           (.region [(16, 0, false), (15, 0, false), (13, 0, false), (12, 0, false)] [] [0, 3, 4] false [
             (none, .mv 11 (.v 3)),
             (none, .mv 12 (.v 0)),
             (none, .mv 13 (.v 0)),
             (none, .mv 14 (.v 4)),
             (none, .iadr 15 4 (.v 13) (.v 14)),
             (none, .fadr 16 0 1 (.v 15)),
             (none, .load 17 false 1 (.v 16) none),
             (none, .call (some 18) 730 false [((.v 12), false), ((.v 17), false)]),
             (none, .call (some 19) 606 false [((.v 11), false), ((.v 18), false)]),
             (none, .asg 3 (.v 19) .copy)]))
          (.region [] [] [0, 3, 4] false [
            (none, .mv 9 (.v 4)),
            (none, .bin 10 .add (.v 9) (.c (.int .i64 1))),
            (none, .asg 4 (.v 10) .copy)]))))))
     (.seq
      (.region [] [] [2] false [
        (none, .mv 20 (.v 3)),
        (none, .asg 2 (.v 20) .copy)])
      (.ret [2])))))⟩
def F733 : PFunc :=
 ⟨[false], [.tmp 2],
  (.seq
   (.region [] [] [0] false [
     (none, .asg 2 (.c (.bool false)) .copy)])
   (.seq
    (.seq
     (.region [] [] [0, 3] false [
       (none, .asg 3 (.c (.int .i64 0)) .copy)])
     (.block 0
      (.loop
       (.seq
        (.seq
         (.region [(6, 0, false)] [] [0, 3, 8] false [
           (none, .mv 5 (.v 3)),
           (none, .mv 6 (.v 0)),
           (none, .len 7 false (.v 6)),
           (none, .bin 8 .lss (.v 5) (.v 7))])
         (.cond (.v 8)
          (.skip [0, 3])
          (.exit 0 [0])))
        (.seq
         (.block 1
          (.seq
           (.region [(13, 0, false), (11, 0, false)] [] [0, 3, 4] false [
             (none, .mv 11 (.v 0)),
             (none, .mv 12 (.v 3)),
             (none, .iadr 13 4 (.v 11) (.v 12)),
             (none, .load 14 true 4 (.v 13) none),
             (none, .new 4 (.agg [(.int .i64 0), (.int .i64 0), (.int .i64 0), (.int .i64 0)])),
             (none, .store 4 (.v 4) (.v 14) .copy)])
           (.seq
            (.region [(32, 4, false), (26, 4, false), (20, 4, false), (15, 4, false)] [] [0, 3, 36] false [
              (none, .fadr 15 0 1 (.v 4)),
              (none, .load 16 false 1 (.v 15) none),
              (none, .call (some 17) 605 false [((.v 16), false), ((.c (.int .i64 0)), false), ((.c (.int .i64 10000)), false)]),
              (none, .un 18 .not (.v 17)),
              (none, .mv 19 (.v 18)),
              (some (19, false), .fadr 20 1 1 (.v 4)),
              (some (19, false), .load 21 false 1 (.v 20) none),
              (some (19, false), .call (some 22) 605 false [((.v 21), false), ((.c (.int .i64 1)), false), ((.c (.int .i64 1000)), false)]),
              (some (19, false), .un 23 .not (.v 22)),
              (none, .pick 24 (.v 19) (.c (.bool true)) (.v 23)),
              (none, .mv 25 (.v 24)),
              (some (25, false), .fadr 26 2 1 (.v 4)),
              (some (25, false), .load 27 false 1 (.v 26) none),
              (some (25, false), .call (some 28) 605 false [((.v 27), false), ((.c (.int .i64 1)), false), ((.c (.int .i64 4)), false)]),
              (some (25, false), .un 29 .not (.v 28)),
              (none, .pick 30 (.v 25) (.c (.bool true)) (.v 29)),
              (none, .mv 31 (.v 30)),
              (some (31, false), .fadr 32 3 1 (.v 4)),
              (some (31, false), .load 33 false 1 (.v 32) none),
              (some (31, false), .call (some 34) 605 false [((.v 33), false), ((.c (.int .i64 0)), false), ((.c (.int .i64 6)), false)]),
              (some (31, false), .un 35 .not (.v 34)),
              (none, .pick 36 (.v 31) (.c (.bool true)) (.v 35))])
            (.cond (.v 36)
             (.seq
              (.region [] [] [2] false [
                (none, .asg 2 (.c (.bool false)) .copy)])
              (.ret [2]))
             (.skip [0, 3])))))
         (.region [] [] [0, 3] false [
           (none, .mv 9 (.v 3)),
           (none, .bin 10 .add (.v 9) (.c (.int .i64 1))),
           (none, .asg 3 (.v 10) .copy)]))))))
    (.seq
     (.region [(37, 0, false)] [] [2] false [
       (none, .mv 37 (.v 0)),
       (none, .len 38 false (.v 37)),
       (none, .bin 39 .leq (.v 38) (.c (.int .i64 6))),
       (none, .asg 2 (.v 39) .copy)])
     (.ret [2]))))⟩
def F547 : PFunc :=
 ⟨[false], [.tmp 2, .tmp 3],
  (.seq
   (.region [] [] [0] false [
     (none, .asg 2 (.c (.int .i64 0)) .copy),
     (none, .asg 3 (.c (.int .i64 0)) .copy)])
   (.seq
    (.seq
     (.region [(4, 0, false)] [] [0, 6] false [
       (none, .mv 4 (.v 0)),
       (none, .call (some 5) 733 false [((.v 4), false)]),
       (none, .un 6 .not (.v 5))])
     (.cond (.v 6)
      (.seq
       (.region [] [] [2, 3] false [
         (none, .asg 2 (.c (.int .i64 0)) .copy),
         (none, .asg 3 (.c (.int .i64 1)) .copy)])
       (.ret [2, 3]))
      (.skip [0])))
    (.seq
     (.region [(7, 0, false)] [] [2, 3] false [
       (none, .mv 7 (.v 0)),
       (none, .call (some 8) 732 false [((.v 7), false)]),
       (none, .asg 2 (.v 8) .copy),
       (none, .asg 3 (.c (.int .i64 0)) .copy)])
     (.ret [2, 3]))))⟩
def F734 : PFunc :=
 ⟨[false, false], [.cell 4 true 4],
  (.seq
   (.region [] [] [1, 2, 4] false [
     (none, .box 2 (.v 0) .copy),
     (none, .new 4 (.agg [(.int .i64 0), (.int .i64 0), (.int .i64 0), (.int .i64 0)]))])
   (.seq
    (.region [(13, 2, false), (11, 2, false), (9, 2, false), (5, 2, false)] [] [4] false [
      (none, .fadr 5 0 1 (.v 2)),
      (none, .load 6 false 1 (.v 5) none),
      (none, .mv 7 (.v 1)),
      (none, .bin 8 .add (.v 6) (.v 7)),
      (none, .fadr 9 1 1 (.v 2)),
      (none, .load 10 false 1 (.v 9) none),
      (none, .fadr 11 2 1 (.v 2)),
      (none, .load 12 false 1 (.v 11) none),
      (none, .fadr 13 3 1 (.v 2)),
      (none, .load 14 false 1 (.v 13) none),
      (none, .mv 15 (.v 1)),
      (none, .bin 16 .sub (.v 14) (.v 15)),
      (none, .build 17 [(.int .i64 0), (.int .i64 0), (.int .i64 0), (.int .i64 0)] [(0, 1, (.v 8), .copy), (1, 1, (.v 10), .copy), (2, 1, (.v 12), .copy), (3, 1, (.v 16), .copy)]),
      (none, .store 4 (.v 4) (.v 17) .copy)])
    (.ret [4])))⟩
def F568 : PFunc :=
 ⟨[false, false], [.tmp 4, .tmp 5],
  (.seq
   (.region [] [] [0, 1] false [
     (none, .asg 4 (.c (.sl true 4 [])) .copy),
     (none, .asg 5 (.c (.int .i64 0)) .copy)])
   (.seq
    (.seq
     (.region [(8, 0, false)] [] [0, 1, 10] false [
       (none, .mv 8 (.v 0)),
       (none, .call (some 9) 733 false [((.v 8), false)]),
       (none, .un 10 .not (.v 9))])
     (.cond (.v 10)
      (.seq
       (.region [] [] [4, 5] false [
         (none, .asg 4 (.c (.sl true 4 [])) .copy),
         (none, .asg 5 (.c (.int .i64 1)) .copy)])
       (.ret [4, 5]))
      (.skip [0, 1])))
    (.seq
     (.seq
      (.region [(13, 0, false), (11, 1, false)] [] [0, 1, 15] false [
        (none, .mv 11 (.v 1)),
        (none, .len 12 false (.v 11)),
        (none, .mv 13 (.v 0)),
        (none, .len 14 false (.v 13)),
        (none, .bin 15 .neq (.v 12) (.v 14))])
      (.cond (.v 15)
       (.seq
        (.region [] [] [4, 5] false [
          (none, .asg 4 (.c (.sl true 4 [])) .copy),
          (none, .asg 5 (.c (.int .i64 2)) .copy)])
        (.ret [4, 5]))
       (.skip [0, 1])))
     (.seq
      (.region [] [] [0, 1, 6] false [
        (none, .mksl 16 4 (.agg [(.int .i64 0), (.int .i64 0), (.int .i64 0), (.int .i64 0)]) 0 []),
        (none, .asg 6 (.v 16) .move)])
      (.seq
       (.seq
        (.region [] [] [0, 1, 6, 7] false [
          (none, .asg 7 (.c (.int .i64 0)) .copy)])
        (.block 0
         (.loop
          (.seq
           (.seq
            (.region [(18, 0, false)] [] [0, 1, 6, 7, 20] false [
              (none, .mv 17 (.v 7)),
              (none, .mv 18 (.v 0)),
              (none, .len 19 false (.v 18)),
              (none, .bin 20 .lss (.v 17) (.v 19))])
            (.cond (.v 20)
             (.skip [0, 1, 6, 7])
             (.exit 0 [6])))
           (.seq
            (.block 1
             (.seq
              (.seq
               (.region [(30, 0, false), (29, 0, false), (27, 0, false), (25, 1, false), (23, 1, false)] [] [0, 1, 6, 7, 33] true [
                 (none, .mv 23 (.v 1)),
                 (none, .mv 24 (.v 7)),
                 (none, .iadr 25 1 (.v 23) (.v 24)),
                 (none, .load 26 false 1 (.v 25) none),
                 (none, .mv 27 (.v 0)),
                 (none, .mv 28 (.v 7)),
                 (none, .iadr 29 4 (.v 27) (.v 28)),
                 (none, .fadr 30 3 1 (.v 29)),
                 (none, .load 31 false 1 (.v 30) none),
                 (none, .call (some 32) 605 false [((.v 26), false), ((.c (.int .i64 0)), false), ((.v 31), false)]),
                 (none, .un 33 .not (.v 32))])
               (.cond (.v 33)
                (.seq
                 (.region [] [] [4, 5] false [
                   (none, .asg 4 (.c (.sl true 4 [])) .copy),
                   (none, .asg 5 (.c (.int .i64 2)) .copy)])
                 (.ret [4, 5]))
                (.skip [0, 1, 6, 7])))
              (.region [(41, 1, false), (39, 1, false), (37, 0, false), (35, 0, false), (34, 6, false)] [] [0, 1, 6, 7] true [
                (none, .mvr 34 6),
                (none, .mv 35 (.v 0)),
                (none, .mv 36 (.v 7)),
                (none, .iadr 37 4 (.v 35) (.v 36)),
                (none, .load 38 true 4 (.v 37) none),
                (none, .mv 39 (.v 1)),
                (none, .mv 40 (.v 7)),
                (none, .iadr 41 1 (.v 39) (.v 40)),
                (none, .load 42 false 1 (.v 41) none),
                (none, .call (some 43) 734 false [((.v 38), false), ((.v 42), false)]),
                (none, .mksl 44 4 (.agg [(.int .i64 0), (.int .i64 0), (.int .i64 0), (.int .i64 0)]) 1 [(0, (.v 43), .copy)]),
                (none, .app 45 4 (.v 34) (.v 44) .move),
                (none, .asg 6 (.v 45) .move)])))
            (.region [] [] [0, 1, 6, 7] false [
              (none, .mv 21 (.v 7)),
              (none, .bin 22 .add (.v 21) (.c (.int .i64 1))),
              (none, .asg 7 (.v 22) .copy)]))))))
       (.seq
        (.seq
         (.region [(46, 6, false)] [] [6, 48] false [
           (none, .mv 46 (.v 6)),
           (none, .call (some 47) 733 false [((.v 46), false)]),
           (none, .un 48 .not (.v 47))])
         (.cond (.v 48)
          (.seq
           (.region [] [] [4, 5] false [
             (none, .asg 4 (.c (.sl true 4 [])) .copy),
             (none, .asg 5 (.c (.int .i64 5)) .copy)])
           (.ret [4, 5]))
          (.skip [6])))
        (.seq
         (.region [(49, 6, false)] [] [4, 5] false [
           (none, .mv 49 (.v 6)),
           (none, .asg 4 (.v 49) .move),
           (none, .asg 5 (.c (.int .i64 0)) .copy)])
         (.ret [4, 5]))))))))⟩
def F381 : PFunc :=
 ⟨[false, false], [.tmp 4],
  (.seq
   (.region [] [] [0, 1] false [
     (none, .asg 4 (.c (.bool false)) .copy)])
   (.seq
    (.seq
     (.region [(41, 1, false), (40, 0, false)] [] [0, 1, 42] false [
       (none, .mv 40 (.v 0)),
       (none, .mv 41 (.v 1)),
       (none, .call (some 42) 386 false [((.v 40), false), ((.v 41), false)])])
     (.cond (.v 42)
      (.seq
       (.region [] [] [4] false [
         (none, .asg 4 (.c (.bool true)) .copy)])
       (.ret [4]))
      (.skip [0, 1])))
    (.seq
     (.region [(43, 0, false)] [] [0, 1, 5] false [
       (none, .mv 43 (.v 0)),
       (none, .call (some 44) 429 false [((.v 43), false)]),
       (none, .asg 5 (.v 44) .copy)])
     (.seq
      (.region [] [] [0, 1, 5, 6, 7] false [
        (none, .mv 46 (.v 5)),
        (none, .call (some 47) 91 false [((.v 46), false)]),
        (none, .asg 45 (.v 47) .copy),
        (none, .extp 48 (.v 45) 0),
        (none, .extp 49 (.v 45) 1),
        (none, .asg 6 (.v 48) .copy),
        (none, .asg 7 (.v 49) .copy)])
      (.seq
       (.region [] [] [0, 1, 5, 6, 7, 8, 9] false [
         (none, .mv 51 (.v 5)),
         (none, .mv 52 (.v 6)),
         (none, .call (some 53) 73 false [((.v 51), false), ((.v 52), false)]),
         (none, .asg 50 (.v 53) .copy),
         (none, .extp 54 (.v 50) 0),
         (none, .extp 55 (.v 50) 1),
         (none, .asg 8 (.v 54) .copy),
         (none, .asg 9 (.v 55) .copy)])
       (.seq
        (.region [] [] [0, 1, 5, 6, 7, 8, 9, 10, 11] false [
          (none, .mv 57 (.v 8)),
          (none, .mv 58 (.v 5)),
          (none, .len 59 true (.v 58)),
          (none, .call (some 60) 147 false [((.v 57), false), ((.v 59), false)]),
          (none, .asg 56 (.v 60) .copy),
          (none, .extp 61 (.v 56) 0),
          (none, .extp 62 (.v 56) 1),
          (none, .asg 10 (.v 61) .copy),
          (none, .asg 11 (.v 62) .copy)])
        (.seq
         (.seq
          (.region [] [] [0, 1, 5, 6, 93] false [
            (none, .mv 63 (.v 7)),
            (none, .bin 64 .neq (.v 63) (.c (.int .i64 0))),
            (none, .mv 65 (.v 64)),
            (some (65, false), .mv 66 (.v 6)),
            (some (65, false), .bin 67 .lss (.v 66) (.c (.int .i64 1))),
            (none, .pick 68 (.v 65) (.c (.bool true)) (.v 67)),
            (none, .mv 69 (.v 68)),
            (some (69, false), .mv 70 (.v 6)),
            (some (69, false), .mv 71 (.v 5)),
            (some (69, false), .len 72 true (.v 71)),
            (some (69, false), .bin 73 .gtr (.v 70) (.v 72)),
            (none, .pick 74 (.v 69) (.c (.bool true)) (.v 73)),
            (none, .mv 75 (.v 74)),
            (some (75, false), .mv 76 (.v 9)),
            (some (75, false), .bin 77 .neq (.v 76) (.c (.int .i64 0))),
            (none, .pick 78 (.v 75) (.c (.bool true)) (.v 77)),
            (none, .mv 79 (.v 78)),
            (some (79, false), .mv 80 (.v 8)),
            (some (79, false), .len 81 true (.v 80)),
            (some (79, false), .mv 82 (.v 6)),
            (some (79, false), .bin 83 .neq (.v 81) (.v 82)),
            (none, .pick 84 (.v 79) (.c (.bool true)) (.v 83)),
            (none, .mv 85 (.v 84)),
            (some (85, false), .mv 86 (.v 11)),
            (some (85, false), .bin 87 .neq (.v 86) (.c (.int .i64 0))),
            (none, .pick 88 (.v 85) (.c (.bool true)) (.v 87)),
            (none, .mv 89 (.v 88)),
            (some (89, false), .mv 90 (.v 10)),
            (some (89, false), .mv 91 (.v 5)),
            (some (89, false), .bin 92 .neq (.v 90) (.v 91)),
            (none, .pick 93 (.v 89) (.c (.bool true)) (.v 92))])
          (.cond (.v 93)
           (.seq
            (.region [] [] [4] false [
              (none, .asg 4 (.c (.bool false)) .copy)])
            (.ret [4]))
           (.skip [0, 1, 5, 6])))
         (.seq
          (.seq
           (.region [] [] [0, 1, 5, 6, 12] false [
             (none, .asg 12 (.c (.int .i64 1)) .copy)])
           (.block 0
            (.loop
             (.seq
              (.seq
               (.region [] [] [0, 1, 5, 6, 12, 96] false [
                 (none, .mv 94 (.v 12)),
                 (none, .mv 95 (.v 6)),
                 (none, .bin 96 .lss (.v 94) (.v 95))])
               (.cond (.v 96)
                (.skip [0, 1, 5, 6, 12])
                (.exit 0 [0, 1])))
              (.seq
               (.block 1
                (.seq
                 (.region [] [] [0, 1, 5, 6, 12, 14] false [
                   (none, .mv 100 (.v 5)),
                   (none, .mv 101 (.v 12)),
                   (none, .call (some 102) 453 false [((.v 100), false), ((.v 101), false)]),
                   (none, .asg 99 (.v 102) .copy),
                   (none, .extp 103 (.v 99) 0),
                   (none, .extp 104 (.v 99) 1),
                   (none, .asg 13 (.v 103) .copy),
                   (none, .asg 14 (.v 104) .copy)])
                 (.seq
                  (.region [] [] [0, 1, 5, 6, 12, 106] false [
                    (none, .mv 105 (.v 14)),
                    (none, .bin 106 .neq (.v 105) (.c (.int .i64 9)))])
                  (.cond (.v 106)
                   (.seq
                    (.region [] [] [4] false [
                      (none, .asg 4 (.c (.bool false)) .copy)])
                    (.ret [4]))
                   (.skip [0, 1, 5, 6, 12])))))
               (.region [] [] [0, 1, 5, 6, 12] false [
                 (none, .mv 97 (.v 12)),
                 (none, .bin 98 .add (.v 97) (.c (.int .i64 1))),
                 (none, .asg 12 (.v 98) .copy)]))))))
          (.seq
           (.region [(107, 1, false)] [] [0, 1, 15] false [
             (none, .mv 107 (.v 1)),
             (none, .call (some 108) 424 false [((.v 107), false)]),
             (none, .asg 15 (.v 108) .move)])
           (.seq
            (.region [(109, 1, false)] [] [0, 1, 15, 16] false [
              (none, .mv 109 (.v 1)),
              (none, .call (some 110) 384 false [((.v 109), false), ((.c (.int .i64 0)), false), ((.c (.int .i64 5)), false)]),
              (none, .asg 16 (.v 110) .copy)])
            (.seq
             (.region [(112, 15, false)] [] [0, 1, 15, 16, 17, 18] false [
               (none, .mv 112 (.v 15)),
               (none, .mv 113 (.v 16)),
               (none, .call (some 114) 123 false [((.v 112), false), ((.v 113), false)]),
               (none, .asg 111 (.v 114) .move),
               (none, .ext 115 (.v 111) 0),
               (none, .extp 116 (.v 111) 1),
               (none, .asg 17 (.v 115) .move),
               (none, .asg 18 (.v 116) .copy)])
             (.seq
              (.region [(118, 15, false), (117, 0, false)] [] [0, 1, 15, 16, 17, 18, 19] false [
                (none, .mv 117 (.v 0)),
                (none, .mv 118 (.v 15)),
                (none, .call (some 119) 432 false [((.v 117), false), ((.v 118), false)]),
                (none, .asg 19 (.v 119) .move)])
              (.seq
               (.region [(122, 19, false), (121, 15, false)] [] [0, 1, 15, 16, 17, 18, 19, 20, 21] false [
                 (none, .mv 121 (.v 15)),
                 (none, .mv 122 (.v 19)),
                 (none, .call (some 123) 568 false [((.v 121), false), ((.v 122), false)]),
                 (none, .asg 120 (.v 123) .move),
                 (none, .ext 124 (.v 120) 0),
                 (none, .extp 125 (.v 120) 1),
                 (none, .asg 20 (.v 124) .move),
                 (none, .asg 21 (.v 125) .copy)])
               (.seq
                (.region [(127, 20, false)] [] [0, 1, 15, 16, 17, 18, 19, 21, 22, 23] false [
                  (none, .mv 127 (.v 20)),
                  (none, .call (some 128) 547 false [((.v 127), false)]),
                  (none, .asg 126 (.v 128) .copy),
                  (none, .extp 129 (.v 126) 0),
                  (none, .extp 130 (.v 126) 1),
                  (none, .asg 22 (.v 129) .copy),
                  (none, .asg 23 (.v 130) .copy)])
                (.seq
                 (.seq
                  (.region [] [] [0, 1, 15, 16, 17, 18, 19, 22, 149] false [
                    (none, .mv 131 (.v 21)),
                    (none, .bin 132 .neq (.v 131) (.c (.int .i64 0))),
                    (none, .mv 133 (.v 132)),
                    (some (133, false), .mv 134 (.v 23)),
                    (some (133, false), .bin 135 .neq (.v 134) (.c (.int .i64 0))),
                    (none, .pick 136 (.v 133) (.c (.bool true)) (.v 135)),
                    (none, .mv 137 (.v 136)),
                    (some (137, false), .mv 138 (.v 18)),
                    (some (137, false), .bin 139 .neq (.v 138) (.c (.int .i64 0))),
                    (some (137, false), .mv 140 (.v 139)),
                    (some (140, true), .mv 141 (.v 18)),
                    (some (140, true), .bin 142 .neq (.v 141) (.c (.int .i64 3))),
                    (some (140, true), .mv 143 (.v 142)),
                    (some (143, false), .mv 144 (.v 22)),
                    (some (143, false), .mv 145 (.v 16)),
                    (some (143, false), .bin 146 .leq (.v 144) (.v 145)),
                    (some (140, true), .pick 147 (.v 143) (.c (.bool true)) (.v 146)),
                    (some (137, false), .pick 148 (.v 140) (.v 147) (.c (.bool false))),
                    (none, .pick 149 (.v 137) (.c (.bool true)) (.v 148))])
                  (.cond (.v 149)
                   (.seq
                    (.region [] [] [4] false [
                      (none, .asg 4 (.c (.bool false)) .copy)])
                    (.ret [4]))
                   (.skip [0, 1, 15, 16, 17, 18, 19, 22])))
                 (.seq
                  (.seq
                   (.region [] [] [0, 1, 15, 16, 17, 19, 22, 151] false [
                     (none, .mv 150 (.v 18)),
                     (none, .bin 151 .eql (.v 150) (.c (.int .i64 0)))])
                   (.cond (.v 151)
                    (.seq
                     (.region [(154, 17, false), (153, 15, false)] [] [0, 1, 16, 17, 19, 22, 24, 25] false [
                       (none, .mv 153 (.v 15)),
                       (none, .mv 154 (.v 17)),
                       (none, .call (some 155) 179 false [((.v 153), false), ((.v 154), false)]),
                       (none, .asg 152 (.v 155) .move),
                       (none, .ext 156 (.v 152) 0),
                       (none, .extp 157 (.v 152) 1),
                       (none, .asg 24 (.v 156) .move),
                       (none, .asg 25 (.v 157) .copy)])
                     (.seq
                      (.region [(159, 24, false)] [] [0, 1, 16, 17, 19, 22, 24, 25, 26, 27] false [
                        (none, .mv 159 (.v 24)),
                        (none, .call (some 160) 146 false [((.v 159), false)]),
                        (none, .asg 158 (.v 160) .copy),
                        (none, .extp 161 (.v 158) 0),
                        (none, .extp 162 (.v 158) 1),
                        (none, .asg 26 (.v 161) .copy),
                        (none, .asg 27 (.v 162) .copy)])
                      (.seq
                       (.region [(164, 24, false)] [] [0, 1, 16, 17, 19, 22, 25, 26, 27, 29] false [
                         (none, .mv 164 (.v 24)),
                         (none, .mv 165 (.v 16)),
                         (none, .call (some 166) 93 false [((.v 164), false), ((.v 165), false)]),
                         (none, .asg 163 (.v 166) .copy),
                         (none, .extp 167 (.v 163) 0),
                         (none, .extp 168 (.v 163) 1),
                         (none, .asg 28 (.v 167) .copy),
                         (none, .asg 29 (.v 168) .copy)])
                       (.seq
                        (.region [(191, 17, false), (189, 19, false)] [] [0, 1, 195] false [
                          (none, .mv 169 (.v 25)),
                          (none, .bin 170 .neq (.v 169) (.c (.int .i64 0))),
                          (none, .mv 171 (.v 170)),
                          (some (171, false), .mv 172 (.v 27)),
                          (some (171, false), .bin 173 .neq (.v 172) (.c (.int .i64 0))),
                          (none, .pick 174 (.v 171) (.c (.bool true)) (.v 173)),
                          (none, .mv 175 (.v 174)),
                          (some (175, false), .mv 176 (.v 26)),
                          (some (175, false), .mv 177 (.v 16)),
                          (some (175, false), .bin 178 .gtr (.v 176) (.v 177)),
                          (none, .pick 179 (.v 175) (.c (.bool true)) (.v 178)),
                          (none, .mv 180 (.v 179)),
                          (some (180, false), .mv 181 (.v 29)),
                          (some (180, false), .bin 182 .neq (.v 181) (.c (.int .i64 3))),
                          (none, .pick 183 (.v 180) (.c (.bool true)) (.v 182)),
                          (none, .mv 184 (.v 183)),
                          (some (184, false), .mv 185 (.v 22)),
                          (some (184, false), .mv 186 (.v 16)),
                          (some (184, false), .bin 187 .leq (.v 185) (.v 186)),
                          (some (184, false), .mv 188 (.v 187)),
                          (some (188, true), .mv 189 (.v 19)),
                          (some (188, true), .call (some 190) 390 false [((.v 189), false)]),
                          (some (188, true), .mv 191 (.v 17)),
                          (some (188, true), .call (some 192) 390 false [((.v 191), false)]),
                          (some (188, true), .bin 193 .lss (.v 190) (.v 192)),
                          (some (184, false), .pick 194 (.v 188) (.v 193) (.c (.bool false))),
                          (none, .pick 195 (.v 184) (.c (.bool true)) (.v 194))])
                        (.cond (.v 195)
                         (.seq
                          (.region [] [] [4] false [
                            (none, .asg 4 (.c (.bool false)) .copy)])
                          (.ret [4]))
                         (.skip [0, 1]))))))
                    (.skip [0, 1])))
                  (.seq
                   (.region [(196, 0, false)] [] [1, 30] false [
                     (none, .mv 196 (.v 0)),
                     (none, .call (some 197) 433 false [((.v 196), false)]),
                     (none, .asg 30 (.v 197) .copy)])
                   (.seq
                    (.region [(198, 1, false)] [] [1, 30, 31] false [
                      (none, .mv 198 (.v 1)),
                      (none, .call (some 199) 384 false [((.v 198), false), ((.c (.int .i64 1)), false), ((.c (.int .i64 4)), false)]),
                      (none, .bin 200 .add (.c (.int .i64 1)) (.v 199)),
                      (none, .asg 31 (.v 200) .copy)])
                    (.seq
                     (.region [] [] [1, 30, 31, 32, 33] false [
                       (none, .mv 202 (.v 30)),
                       (none, .mv 203 (.v 31)),
                       (none, .call (some 204) 90 false [((.v 202), false), ((.v 203), false)]),
                       (none, .asg 201 (.v 204) .copy),
                       (none, .extp 205 (.v 201) 0),
                       (none, .extp 206 (.v 201) 1),
                       (none, .asg 32 (.v 205) .copy),
                       (none, .asg 33 (.v 206) .copy)])
                     (.seq
                      (.region [] [] [1, 30, 31, 32, 33, 34, 35] false [
                        (none, .mv 208 (.v 30)),
                        (none, .mv 209 (.v 31)),
                        (none, .call (some 210) 51 false [((.v 208), false), ((.v 209), false)]),
                        (none, .asg 207 (.v 210) .move),
                        (none, .ext 211 (.v 207) 0),
                        (none, .extp 212 (.v 207) 1),
                        (none, .asg 34 (.v 211) .move),
                        (none, .asg 35 (.v 212) .copy)])
                      (.seq
                       (.region [(216, 34, false)] [] [1, 30, 31, 32, 33, 35, 36, 37] false [
                         (none, .mv 214 (.v 30)),
                         (none, .mv 215 (.v 31)),
                         (none, .mv 216 (.v 34)),
                         (none, .call (some 217) 136 false [((.v 214), false), ((.v 215), false), ((.v 216), false)]),
                         (none, .asg 213 (.v 217) .copy),
                         (none, .extp 218 (.v 213) 0),
                         (none, .extp 219 (.v 213) 1),
                         (none, .asg 36 (.v 218) .copy),
                         (none, .asg 37 (.v 219) .copy)])
                       (.seq
                        (.region [(223, 1, false)] [] [32, 33, 35, 36, 37, 38, 39] false [
                          (none, .mv 221 (.v 30)),
                          (none, .mv 222 (.v 31)),
                          (none, .mv 223 (.v 1)),
                          (none, .mv 224 (.v 30)),
                          (none, .len 225 true (.v 224)),
                          (none, .mv 226 (.v 31)),
                          (none, .call (some 227) 430 false [((.v 223), false), ((.v 225), false), ((.v 226), false)]),
                          (none, .call (some 228) 544 false [((.v 221), false), ((.v 222), false), ((.v 227), false)]),
                          (none, .asg 220 (.v 228) .copy),
                          (none, .extp 229 (.v 220) 0),
                          (none, .extp 230 (.v 220) 1),
                          (none, .asg 38 (.v 229) .copy),
                          (none, .asg 39 (.v 230) .copy)])
                        (.seq
                         (.region [] [] [4] false [
                           (none, .mv 231 (.v 33)),
                           (none, .bin 232 .eql (.v 231) (.c (.int .i64 0))),
                           (none, .mv 233 (.v 232)),
                           (some (233, true), .mv 234 (.v 35)),
                           (some (233, true), .bin 235 .eql (.v 234) (.c (.int .i64 0))),
                           (none, .pick 236 (.v 233) (.v 235) (.c (.bool false))),
                           (none, .mv 237 (.v 236)),
                           (some (237, true), .mv 238 (.v 37)),
                           (some (237, true), .bin 239 .eql (.v 238) (.c (.int .i64 0))),
                           (none, .pick 240 (.v 237) (.v 239) (.c (.bool false))),
                           (none, .mv 241 (.v 240)),
                           (some (241, true), .mv 242 (.v 36)),
                           (some (241, true), .mv 243 (.v 32)),
                           (some (241, true), .bin 244 .eql (.v 242) (.v 243)),
                           (none, .pick 245 (.v 241) (.v 244) (.c (.bool false))),
                           (none, .mv 246 (.v 245)),
                           (some (246, true), .mv 247 (.v 39)),
                           (some (246, true), .bin 248 .eql (.v 247) (.c (.int .i64 0))),
                           (none, .pick 249 (.v 246) (.v 248) (.c (.bool false))),
                           (none, .mv 250 (.v 249)),
                           (some (250, true), .mv 251 (.v 38)),
                           (some (250, true), .mv 252 (.v 32)),
                           (some (250, true), .bin 253 .geq (.v 251) (.v 252)),
                           (none, .pick 254 (.v 250) (.v 253) (.c (.bool false))),
                           (none, .asg 4 (.v 254) .copy)])
                         (.ret [4]))))))))))))))))))))))))⟩
def tabl : List (Nat × PFunc) := [(830, F830), (250, F250), (277, F277), (229, F229), (326, F326), (307, F307), (51, F51), (222, F222), (294, F294), (304, F304), (261, F261), (73, F73), (290, F290), (90, F90), (91, F91), (211, F211), (822, F822), (800, F800), (210, F210), (260, F260), (272, F272), (93, F93), (293, F293), (306, F306), (315, F315), (124, F124), (242, F242), (123, F123), (137, F137), (818, F818), (796, F796), (136, F136), (146, F146), (147, F147), (179, F179), (384, F384), (386, F386), (390, F390), (603, F603), (5, F5), (7, F7), (731, F731), (424, F424), (602, F602), (610, F610), (621, F621), (623, F623), (644, F644), (642, F642), (429, F429), (430, F430), (432, F432), (753, F753), (433, F433), (605, F605), (643, F643), (645, F645), (640, F640), (641, F641), (453, F453), (756, F756), (752, F752), (755, F755), (544, F544), (606, F606), (730, F730), (732, F732), (733, F733), (547, F547), (734, F734), (568, F568), (381, F381)]
def T : Nat → Option PFunc := tabOf tabl
end Go.Vs.G
