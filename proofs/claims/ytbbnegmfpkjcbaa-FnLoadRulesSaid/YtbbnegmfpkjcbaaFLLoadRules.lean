/- The functions that the law reaches, in the small language, printed by program. No conditions. -/
import Derived.Test.YtbbnegmfpkjcbaaDLLoadRules
import Derived.Test.YtbbnegmfpkjcbaaV4
set_option maxRecDepth 100000
open Go Go.Vs
namespace Go.Vs.G
def F830 : PFunc :=
 ⟨[false, false], [.tmp 4],
  (.seq
   (.region [] [] [0, 1] false [
     (none, .asg 4 (.c (.int .i64 0)) .copy)])
   (.seq
    (.seq
     (.region [(6, 0, false)] [] [0, 1, 7, 8] false [
       (none, .mv 6 (.v 0)),
       (none, .len 7 false (.v 6)),
       (none, .mv 8 (.c (.int .i64 0)))])
     (.block 0
      (.loop
       (.seq
        (.region [] [] [0, 1, 7, 8, 9] false [
          (none, .bin 9 .lss (.v 8) (.v 7))])
        (.seq
         (.cond (.v 9)
          (.skip [0, 1, 7, 8])
          (.exit 0 []))
         (.seq
          (.block 1
           (.seq
            (.region [] [] [0, 1, 5, 7, 8] false [
              (none, .mv 10 (.v 8)),
              (none, .asg 5 (.v 10) .copy)])
            (.seq
             (.region [(14, 0, false), (12, 0, false)] [] [0, 1, 5, 7, 8, 16] false [
               (none, .mv 11 (.v 1)),
               (none, .mv 12 (.v 0)),
               (none, .mv 13 (.v 5)),
               (none, .iadr 14 1 (.v 12) (.v 13)),
               (none, .load 15 false 1 (.v 14) none),
               (none, .bin 16 .eql (.v 11) (.v 15))])
             (.cond (.v 16)
              (.seq
               (.region [] [] [4] false [
                 (none, .mv 17 (.v 5)),
                 (none, .asg 4 (.v 17) .copy)])
               (.ret [4]))
              (.skip [0, 1, 7, 8])))))
          (.region [] [] [0, 1, 7, 8] false [
            (none, .bin 18 .add (.v 8) (.c (.int .i64 1))),
            (none, .mv 8 (.v 18))])))))))
    (.seq
     (.region [] [] [4] false [
       (none, .asg 4 (.c (.int .i64 (-1))) .copy)])
     (.ret [4]))))⟩
def F250 : PFunc :=
 ⟨[false, false], [.tmp 4],
  (.seq
   (.region [] [] [0, 1] false [
     (none, .asg 4 (.c (.sl true 1 [])) .copy)])
   (.seq
    (.region [] [] [0, 5, 6] true [
      (none, .mksl 13 1 (.int .i64 0) 0 []),
      (none, .mv 14 (.v 1)),
      (none, .make 15 1 (.int .u8 0) (.v 14)),
      (none, .asg 5 (.v 13) .move),
      (none, .asg 6 (.v 15) .move)])
    (.seq
     (.seq
      (.region [] [] [0, 5, 6, 17, 18] false [
        (none, .mv 16 (.v 0)),
        (none, .len 17 true (.v 16)),
        (none, .mv 18 (.c (.int .i64 0)))])
      (.block 0
       (.loop
        (.seq
         (.region [] [] [0, 5, 6, 17, 18, 19] false [
           (none, .bin 19 .lss (.v 18) (.v 17))])
         (.seq
          (.cond (.v 19)
           (.skip [0, 5, 6, 17, 18])
           (.exit 0 [5]))
          (.seq
           (.block 1
            (.seq
             (.region [] [] [0, 5, 6, 7, 17, 18] false [
               (none, .mv 20 (.v 18)),
               (none, .asg 7 (.v 20) .copy)])
             (.seq
              (.region [(21, 6, false)] [] [0, 5, 6, 7, 8, 17, 18] false [
                (none, .mv 21 (.v 6)),
                (none, .mv 22 (.v 0)),
                (none, .mv 23 (.v 7)),
                (none, .idx 24 (.v 22) (.v 23)),
                (none, .call (some 25) 830 false [((.v 21), false), ((.v 24), false)]),
                (none, .asg 8 (.v 25) .copy)])
              (.seq
               (.seq
                (.region [] [] [0, 5, 6, 7, 8, 17, 18, 27] false [
                  (none, .mv 26 (.v 8)),
                  (none, .bin 27 .lss (.v 26) (.c (.int .i64 0)))])
                (.cond (.v 27)
                 (.region [(28, 6, false)] [] [0, 5, 6, 7, 8, 17, 18] false [
                   (none, .mv 28 (.v 6)),
                   (none, .call (some 29) 830 false [((.v 28), false), ((.c (.int .u8 0)), false)]),
                   (none, .asg 8 (.v 29) .copy)])
                 (.skip [0, 5, 6, 7, 8, 17, 18])))
               (.seq
                (.seq
                 (.region [] [] [0, 5, 6, 7, 8, 17, 18, 31] false [
                   (none, .mv 30 (.v 8)),
                   (none, .bin 31 .lss (.v 30) (.c (.int .i64 0)))])
                 (.cond (.v 31)
                  (.seq
                   (.region [] [] [0, 5, 6, 7, 8, 17, 18] false [
                     (none, .asg 8 (.c (.int .i64 0)) .copy)])
                   (.seq
                    (.region [] [] [0, 5, 6, 7, 8, 9, 17, 18] false [
                      (none, .asg 9 (.c (.int .i64 (-1))) .copy)])
                    (.seq
                     (.region [(32, 6, false)] [] [0, 5, 6, 7, 8, 9, 17, 18, 32, 33, 34] false [
                       (none, .mv 32 (.v 6)),
                       (none, .len 33 false (.v 32)),
                       (none, .mv 34 (.c (.int .i64 0)))])
                     (.block 2
                      (.loop
                       (.seq
                        (.region [(32, 6, false)] [] [0, 5, 6, 7, 8, 9, 17, 18, 32, 33, 34, 35] false [
                          (none, .bin 35 .lss (.v 34) (.v 33))])
                        (.seq
                         (.cond (.v 35)
                          (.skip [0, 5, 6, 7, 8, 9, 17, 18, 32, 33, 34])
                          (.exit 2 [0, 5, 6, 7, 8, 17, 18]))
                         (.seq
                          (.block 3
                           (.seq
                            (.region [(37, 6, false), (32, 6, false)] [] [0, 5, 6, 7, 8, 9, 10, 11, 17, 18, 32, 33, 34] false [
                              (none, .mv 36 (.v 34)),
                              (none, .iadr 37 1 (.v 32) (.v 34)),
                              (none, .load 38 false 1 (.v 37) none),
                              (none, .asg 10 (.v 36) .copy),
                              (none, .asg 11 (.v 38) .copy)])
                            (.seq
                             (.region [(32, 6, false)] [] [0, 5, 6, 7, 8, 9, 10, 12, 17, 18, 32, 33, 34] false [
                               (none, .mv 39 (.v 0)),
                               (none, .mv 40 (.v 7)),
                               (none, .slc 41 true 0 (.v 39) (some (.v 40)) none .copy),
                               (none, .mv 42 (.v 11)),
                               (none, .call (some 43) 873 false [((.v 41), false), ((.v 42), false)]),
                               (none, .asg 12 (.v 43) .copy)])
                             (.seq
                              (.seq
                               (.region [(32, 6, false)] [] [0, 5, 6, 7, 8, 9, 10, 12, 17, 18, 32, 33, 34, 45] false [
                                 (none, .mv 44 (.v 12)),
                                 (none, .bin 45 .lss (.v 44) (.c (.int .i64 0)))])
                               (.cond (.v 45)
                                (.seq
                                 (.region [] [] [0, 5, 6, 7, 8, 17, 18] false [
                                   (none, .mv 46 (.v 10)),
                                   (none, .asg 8 (.v 46) .copy)])
                                 (.exit 2 [0, 5, 6, 7, 8, 17, 18]))
                                (.skip [0, 5, 6, 7, 8, 9, 10, 12, 17, 18, 32, 33, 34])))
                              (.seq
                               (.region [(32, 6, false)] [] [0, 5, 6, 7, 8, 9, 10, 12, 17, 18, 32, 33, 34, 49] false [
                                 (none, .mv 47 (.v 12)),
                                 (none, .mv 48 (.v 9)),
                                 (none, .bin 49 .gtr (.v 47) (.v 48))])
                               (.cond (.v 49)
                                (.region [(32, 6, false)] [] [0, 5, 6, 7, 8, 9, 17, 18, 32, 33, 34] false [
                                  (none, .mv 50 (.v 10)),
                                  (none, .mv 51 (.v 12)),
                                  (none, .asg 8 (.v 50) .copy),
                                  (none, .asg 9 (.v 51) .copy)])
                                (.skip [0, 5, 6, 7, 8, 9, 17, 18, 32, 33, 34])))))))
                          (.region [(32, 6, false)] [] [0, 5, 6, 7, 8, 9, 17, 18, 32, 33, 34] false [
                            (none, .bin 52 .add (.v 34) (.c (.int .i64 1))),
                            (none, .mv 34 (.v 52))])))))))))
                  (.skip [0, 5, 6, 7, 8, 17, 18])))
                (.seq
                 (.region [(58, 6, false), (53, 6, false)] [] [0, 5, 6, 8, 17, 18] false [
                   (none, .mv 53 (.v 6)),
                   (none, .mv 54 (.v 8)),
                   (none, .mv 55 (.v 0)),
                   (none, .mv 56 (.v 7)),
                   (none, .idx 57 (.v 55) (.v 56)),
                   (none, .iadr 58 1 (.v 53) (.v 54)),
                   (none, .store 1 (.v 58) (.v 57) .copy)])
                 (.region [(59, 5, false)] [] [0, 5, 6, 17, 18] false [
                   (none, .mv 59 (.v 5)),
                   (none, .mv 60 (.v 8)),
                   (none, .mksl 61 1 (.int .i64 0) 1 [(0, (.v 60), .copy)]),
                   (none, .app 62 1 (.v 59) (.v 61) .move),
                   (none, .asg 5 (.v 62) .move)])))))))
           (.region [] [] [0, 5, 6, 17, 18] false [
             (none, .bin 63 .add (.v 18) (.c (.int .i64 1))),
             (none, .mv 18 (.v 63))])))))))
     (.seq
      (.region [(64, 5, false)] [] [4] false [
        (none, .mv 64 (.v 5)),
        (none, .asg 4 (.v 64) .move)])
      (.ret [4])))))⟩
def F290 : PFunc :=
 ⟨[false, false, false], [.tmp 6],
  (.seq
   (.region [] [] [0, 1, 2] false [
     (none, .asg 6 (.c (.int .i64 0)) .copy)])
   (.seq
    (.region [] [] [0, 2, 7, 8] false [
      (none, .mv 11 (.v 1)),
      (none, .make 12 1 (.int .u8 0) (.v 11)),
      (none, .asg 7 (.v 12) .move),
      (none, .asg 8 (.c (.int .i64 0)) .copy)])
    (.seq
     (.seq
      (.region [(13, 2, false)] [] [0, 2, 7, 8, 13, 14, 15] false [
        (none, .mv 13 (.v 2)),
        (none, .len 14 false (.v 13)),
        (none, .mv 15 (.c (.int .i64 0)))])
      (.block 0
       (.loop
        (.seq
         (.region [(13, 2, false)] [] [0, 2, 7, 8, 13, 14, 15, 16] false [
           (none, .bin 16 .lss (.v 15) (.v 14))])
         (.seq
          (.cond (.v 16)
           (.skip [0, 2, 7, 8, 13, 14, 15])
           (.exit 0 [8]))
          (.seq
           (.block 1
            (.seq
             (.region [(18, 2, false), (13, 2, false)] [] [0, 2, 7, 8, 9, 10, 13, 14, 15] false [
               (none, .mv 17 (.v 15)),
               (none, .iadr 18 1 (.v 13) (.v 15)),
               (none, .load 19 false 1 (.v 18) none),
               (none, .asg 9 (.v 17) .copy),
               (none, .asg 10 (.v 19) .copy)])
             (.seq
              (.region [(22, 7, false), (20, 7, false), (13, 2, false)] [] [0, 2, 7, 8, 9, 10, 13, 14, 15, 27] true [
                (none, .mvr 20 7),
                (none, .mv 21 (.v 10)),
                (none, .iadr 22 1 (.v 20) (.v 21)),
                (none, .load 23 false 1 (.v 22) none),
                (none, .mv 24 (.v 0)),
                (none, .mv 25 (.v 9)),
                (none, .idx 26 (.v 24) (.v 25)),
                (none, .bin 27 .neq (.v 23) (.v 26))])
              (.cond (.v 27)
               (.seq
                (.region [(33, 7, false), (28, 7, false), (13, 2, false)] [] [0, 2, 7, 8, 13, 14, 15] false [
                  (none, .mv 28 (.v 7)),
                  (none, .mv 29 (.v 10)),
                  (none, .mv 30 (.v 0)),
                  (none, .mv 31 (.v 9)),
                  (none, .idx 32 (.v 30) (.v 31)),
                  (none, .iadr 33 1 (.v 28) (.v 29)),
                  (none, .store 1 (.v 33) (.v 32) .copy)])
                (.region [(13, 2, false)] [] [0, 2, 7, 8, 13, 14, 15] false [
                  (none, .mv 34 (.v 8)),
                  (none, .bin 35 .add (.v 34) (.c (.int .i64 1))),
                  (none, .asg 8 (.v 35) .copy)]))
               (.skip [0, 2, 7, 8, 13, 14, 15])))))
           (.region [(13, 2, false)] [] [0, 2, 7, 8, 13, 14, 15] false [
             (none, .bin 36 .add (.v 15) (.c (.int .i64 1))),
             (none, .mv 15 (.v 36))])))))))
     (.seq
      (.region [] [] [6] false [
        (none, .mv 37 (.v 8)),
        (none, .asg 6 (.v 37) .copy)])
      (.ret [6])))))⟩
def F277 : PFunc :=
 ⟨[false, false], [.tmp 4],
  (.seq
   (.region [] [] [0, 1] false [
     (none, .asg 4 (.c (.bool false)) .copy)])
   (.seq
    (.seq
     (.region [] [] [0, 1, 5] false [
       (none, .asg 5 (.c (.int .i64 0)) .copy)])
     (.block 0
      (.loop
       (.seq
        (.seq
         (.region [] [] [0, 1, 5, 9] false [
           (none, .mv 6 (.v 5)),
           (none, .mv 7 (.v 0)),
           (none, .len 8 true (.v 7)),
           (none, .bin 9 .lss (.v 6) (.v 8))])
         (.cond (.v 9)
          (.skip [0, 1, 5])
          (.exit 0 [0, 1])))
        (.seq
         (.block 1
          (.seq
           (.region [] [] [0, 1, 5, 21] false [
             (none, .mv 12 (.v 0)),
             (none, .mv 13 (.v 5)),
             (none, .idx 14 (.v 12) (.v 13)),
             (none, .bin 15 .lss (.v 14) (.c (.int .u8 97))),
             (none, .mv 16 (.v 15)),
             (some (16, false), .mv 17 (.v 0)),
             (some (16, false), .mv 18 (.v 5)),
             (some (16, false), .idx 19 (.v 17) (.v 18)),
             (some (16, false), .bin 20 .gtr (.v 19) (.c (.int .u8 122))),
             (none, .pick 21 (.v 16) (.c (.bool true)) (.v 20))])
           (.cond (.v 21)
            (.seq
             (.region [] [] [4] false [
               (none, .asg 4 (.c (.bool false)) .copy)])
             (.ret [4]))
            (.skip [0, 1, 5]))))
         (.region [] [] [0, 1, 5] false [
           (none, .mv 10 (.v 5)),
           (none, .bin 11 .add (.v 10) (.c (.int .i64 1))),
           (none, .asg 5 (.v 11) .copy)]))))))
    (.seq
     (.region [] [] [4] false [
       (none, .mv 22 (.v 0)),
       (none, .len 23 true (.v 22)),
       (none, .bin 24 .geq (.v 23) (.c (.int .i64 1))),
       (none, .mv 25 (.v 24)),
       (some (25, true), .mv 26 (.v 0)),
       (some (25, true), .len 27 true (.v 26)),
       (some (25, true), .mv 28 (.v 1)),
       (some (25, true), .bin 29 .leq (.v 27) (.v 28)),
       (none, .pick 30 (.v 25) (.v 29) (.c (.bool false))),
       (none, .asg 4 (.v 30) .copy)])
     (.ret [4]))))⟩
def F229 : PFunc :=
 ⟨[false], [.tmp 2],
  (.seq
   (.region [] [] [0] false [
     (none, .asg 2 (.c (.bool false)) .copy)])
   (.seq
    (.region [] [] [2] false [
      (none, .mv 3 (.v 0)),
      (none, .bin 4 .eql (.v 3) (.c (.str []))),
      (none, .mv 5 (.v 4)),
      (some (5, false), .mv 6 (.v 0)),
      (some (5, false), .call (some 7) 277 false [((.v 6), false), ((.c (.int .i64 40)), false)]),
      (none, .pick 8 (.v 5) (.c (.bool true)) (.v 7)),
      (none, .asg 2 (.v 8) .copy)])
    (.ret [2])))⟩
def F326 : PFunc :=
 ⟨[false, false, false], [.tmp 6],
  (.seq
   (.region [] [] [0, 1, 2] false [
     (none, .asg 6 (.c (.bool false)) .copy)])
   (.seq
    (.region [] [] [6] false [
      (none, .mv 7 (.v 0)),
      (none, .mv 8 (.v 1)),
      (none, .bin 9 .geq (.v 7) (.v 8)),
      (none, .mv 10 (.v 9)),
      (some (10, true), .mv 11 (.v 0)),
      (some (10, true), .mv 12 (.v 2)),
      (some (10, true), .bin 13 .leq (.v 11) (.v 12)),
      (none, .pick 14 (.v 10) (.v 13) (.c (.bool false))),
      (none, .asg 6 (.v 14) .copy)])
    (.ret [6])))⟩
def F307 : PFunc :=
 ⟨[false, false], [.tmp 4],
  (.seq
   (.region [] [] [0, 1] false [
     (none, .asg 4 (.c (.int .i64 0)) .copy)])
   (.seq
    (.block 0
     (.seq
      (.region [] [] [1, 5] false [
        (none, .mv 6 (.v 0)),
        (none, .call (some 7) 229 false [((.v 6), false)]),
        (none, .un 8 .not (.v 7)),
        (none, .asg 5 (.v 8) .copy)])
      (.cond (.v 5)
       (.seq
        (.region [] [] [4] false [
          (none, .asg 4 (.c (.int .i64 1)) .copy)])
        (.ret [4]))
       (.seq
        (.region [] [] [9] false [
          (none, .mv 10 (.v 1)),
          (none, .call (some 11) 326 false [((.v 10), false), ((.c (.int .i64 1)), false), ((.c (.int .i64 6)), false)]),
          (none, .un 12 .not (.v 11)),
          (none, .asg 9 (.v 12) .copy)])
        (.cond (.v 9)
         (.seq
          (.region [] [] [4] false [
            (none, .asg 4 (.c (.int .i64 2)) .copy)])
          (.ret [4]))
         (.skip []))))))
    (.seq
     (.region [] [] [4] false [
       (none, .asg 4 (.c (.int .i64 0)) .copy)])
     (.ret [4]))))⟩
def F90 : PFunc :=
 ⟨[false, false], [.tmp 4, .tmp 5],
  (.seq
   (.region [] [] [0, 1] false [
     (none, .asg 4 (.c (.int .i64 0)) .copy),
     (none, .asg 5 (.c (.int .i64 0)) .copy)])
   (.seq
    (.seq
     (.region [] [] [0, 1, 6] false [
       (none, .mv 7 (.v 0)),
       (none, .mv 8 (.v 1)),
       (none, .call (some 9) 307 false [((.v 7), false), ((.v 8), false)]),
       (none, .asg 6 (.v 9) .copy)])
     (.seq
      (.region [] [] [0, 1, 6, 11] false [
        (none, .mv 10 (.v 6)),
        (none, .bin 11 .neq (.v 10) (.c (.int .i64 0)))])
      (.cond (.v 11)
       (.seq
        (.region [] [] [4, 5] false [
          (none, .mv 12 (.v 6)),
          (none, .asg 4 (.c (.int .i64 0)) .copy),
          (none, .asg 5 (.v 12) .copy)])
        (.ret [4, 5]))
       (.skip [0, 1]))))
    (.seq
     (.region [] [] [4, 5] false [
       (none, .mv 13 (.v 0)),
       (none, .mv 14 (.v 1)),
       (none, .mv 15 (.v 0)),
       (none, .mv 16 (.v 1)),
       (none, .call (some 17) 250 false [((.v 15), false), ((.v 16), false)]),
       (none, .call (some 18) 290 false [((.v 13), false), ((.v 14), false), ((.v 17), false)]),
       (none, .asg 4 (.v 18) .copy),
       (none, .asg 5 (.c (.int .i64 0)) .copy)])
     (.ret [4, 5]))))⟩
def F291 : PFunc :=
 ⟨[false, false, false], [.tmp 6],
  (.seq
   (.region [] [] [0, 1, 2] false [
     (none, .asg 6 (.c (.int .i64 0)) .copy)])
   (.seq
    (.region [] [] [0, 1, 2, 7, 8] false [
      (none, .mksl 11 1 (.int .u8 0) 0 []),
      (none, .asg 7 (.v 11) .move),
      (none, .asg 8 (.c (.int .i64 0)) .copy)])
    (.seq
     (.seq
      (.region [] [] [0, 1, 2, 7, 8, 13, 14] false [
        (none, .mv 12 (.v 0)),
        (none, .len 13 true (.v 12)),
        (none, .mv 14 (.c (.int .i64 0)))])
      (.block 0
       (.loop
        (.seq
         (.region [] [] [0, 1, 2, 7, 8, 13, 14, 15] false [
           (none, .bin 15 .lss (.v 14) (.v 13))])
         (.seq
          (.cond (.v 15)
           (.skip [0, 1, 2, 7, 8, 13, 14])
           (.exit 0 [8]))
          (.seq
           (.block 1
            (.seq
             (.region [] [] [0, 1, 2, 7, 8, 9, 13, 14] false [
               (none, .mv 16 (.v 14)),
               (none, .asg 9 (.v 16) .copy)])
             (.seq
              (.region [(17, 7, false)] [] [0, 1, 2, 7, 8, 9, 10, 13, 14] false [
                (none, .mv 17 (.v 7)),
                (none, .mv 18 (.v 0)),
                (none, .mv 19 (.v 9)),
                (none, .idx 20 (.v 18) (.v 19)),
                (none, .call (some 21) 830 false [((.v 17), false), ((.v 20), false)]),
                (none, .asg 10 (.v 21) .copy)])
              (.seq
               (.region [] [] [0, 1, 2, 7, 8, 9, 10, 13, 14, 23] false [
                 (none, .mv 22 (.v 10)),
                 (none, .bin 23 .lss (.v 22) (.c (.int .i64 0)))])
               (.cond (.v 23)
                (.seq
                 (.region [] [] [0, 1, 2, 7, 8, 9, 13, 14] false [
                   (none, .mv 24 (.v 8)),
                   (none, .bin 25 .add (.v 24) (.c (.int .i64 1))),
                   (none, .asg 8 (.v 25) .copy)])
                 (.seq
                  (.region [(26, 7, false)] [] [0, 1, 2, 7, 8, 13, 14] false [
                    (none, .mv 26 (.v 7)),
                    (none, .mv 27 (.v 0)),
                    (none, .mv 28 (.v 9)),
                    (none, .idx 29 (.v 27) (.v 28)),
                    (none, .mksl 30 1 (.int .u8 0) 1 [(0, (.v 29), .copy)]),
                    (none, .app 31 1 (.v 26) (.v 30) .move),
                    (none, .asg 7 (.v 31) .move)])
                  (.seq
                   (.region [(32, 7, false)] [] [0, 1, 2, 7, 8, 13, 14, 35] false [
                     (none, .mv 32 (.v 7)),
                     (none, .len 33 false (.v 32)),
                     (none, .mv 34 (.v 1)),
                     (none, .bin 35 .gtr (.v 33) (.v 34))])
                   (.cond (.v 35)
                    (.region [(36, 7, false)] [] [0, 1, 2, 7, 8, 13, 14] false [
                      (none, .mv 36 (.v 7)),
                      (none, .slo 37 1 (.v 36) (.c (.int .i64 1))),
                      (none, .asg 7 (.v 37) .move)])
                    (.skip [0, 1, 2, 7, 8, 13, 14])))))
                (.seq
                 (.region [] [] [0, 1, 2, 7, 8, 9, 10, 13, 14, 38] false [
                   (none, .mv 38 (.v 2))])
                 (.cond (.v 38)
                  (.region [(39, 7, false)] [] [0, 1, 2, 7, 8, 13, 14] true [
                    (none, .mvr 39 7),
                    (none, .mv 40 (.v 10)),
                    (none, .mv 41 (.v 10)),
                    (none, .bin 42 .add (.v 41) (.c (.int .i64 1))),
                    (none, .call (some 43) 810 false [((.v 39), true), ((.v 40), false), ((.v 42), false)]),
                    (none, .mv 44 (.v 0)),
                    (none, .mv 45 (.v 9)),
                    (none, .idx 46 (.v 44) (.v 45)),
                    (none, .mksl 47 1 (.int .u8 0) 1 [(0, (.v 46), .copy)]),
                    (none, .app 48 1 (.v 43) (.v 47) .move),
                    (none, .asg 7 (.v 48) .move)])
                  (.skip [0, 1, 2, 7, 8, 13, 14]))))))))
           (.region [] [] [0, 1, 2, 7, 8, 13, 14] false [
             (none, .bin 49 .add (.v 14) (.c (.int .i64 1))),
             (none, .mv 14 (.v 49))])))))))
     (.seq
      (.region [] [] [6] false [
        (none, .mv 50 (.v 8)),
        (none, .asg 6 (.v 50) .copy)])
      (.ret [6])))))⟩
def F135 : PFunc :=
 ⟨[false, false], [.tmp 4, .tmp 5],
  (.seq
   (.region [] [] [0, 1] false [
     (none, .asg 4 (.c (.int .i64 0)) .copy),
     (none, .asg 5 (.c (.int .i64 0)) .copy)])
   (.seq
    (.seq
     (.region [] [] [0, 1, 6] false [
       (none, .mv 7 (.v 0)),
       (none, .mv 8 (.v 1)),
       (none, .call (some 9) 307 false [((.v 7), false), ((.v 8), false)]),
       (none, .asg 6 (.v 9) .copy)])
     (.seq
      (.region [] [] [0, 1, 6, 11] false [
        (none, .mv 10 (.v 6)),
        (none, .bin 11 .neq (.v 10) (.c (.int .i64 0)))])
      (.cond (.v 11)
       (.seq
        (.region [] [] [4, 5] false [
          (none, .mv 12 (.v 6)),
          (none, .asg 4 (.c (.int .i64 0)) .copy),
          (none, .asg 5 (.v 12) .copy)])
        (.ret [4, 5]))
       (.skip [0, 1]))))
    (.seq
     (.region [] [] [4, 5] false [
       (none, .mv 13 (.v 0)),
       (none, .mv 14 (.v 1)),
       (none, .call (some 15) 291 false [((.v 13), false), ((.v 14), false), ((.c (.bool true)), false)]),
       (none, .asg 4 (.v 15) .copy),
       (none, .asg 5 (.c (.int .i64 0)) .copy)])
     (.ret [4, 5]))))⟩
def F138 : PFunc :=
 ⟨[false, false], [.tmp 4, .tmp 5],
  (.seq
   (.region [] [] [0, 1] false [
     (none, .asg 4 (.c (.int .i64 0)) .copy),
     (none, .asg 5 (.c (.int .i64 0)) .copy)])
   (.seq
    (.seq
     (.region [] [] [0, 1, 6] false [
       (none, .mv 7 (.v 0)),
       (none, .mv 8 (.v 1)),
       (none, .call (some 9) 307 false [((.v 7), false), ((.v 8), false)]),
       (none, .asg 6 (.v 9) .copy)])
     (.seq
      (.region [] [] [0, 1, 6, 11] false [
        (none, .mv 10 (.v 6)),
        (none, .bin 11 .neq (.v 10) (.c (.int .i64 0)))])
      (.cond (.v 11)
       (.seq
        (.region [] [] [4, 5] false [
          (none, .mv 12 (.v 6)),
          (none, .asg 4 (.c (.int .i64 0)) .copy),
          (none, .asg 5 (.v 12) .copy)])
        (.ret [4, 5]))
       (.skip [0, 1]))))
    (.seq
     (.region [] [] [4, 5] false [
       (none, .mv 13 (.v 0)),
       (none, .mv 14 (.v 1)),
       (none, .call (some 15) 291 false [((.v 13), false), ((.v 14), false), ((.c (.bool false)), false)]),
       (none, .asg 4 (.v 15) .copy),
       (none, .asg 5 (.c (.int .i64 0)) .copy)])
     (.ret [4, 5]))))⟩
def F384 : PFunc :=
 ⟨[false, false, false], [.tmp 6],
  (.seq
   (.region [] [] [0, 1, 2] false [
     (none, .asg 6 (.c (.int .i64 0)) .copy)])
   (.seq
    (.seq
     (.region [(8, 0, false)] [] [0, 1, 2, 14] false [
       (none, .mv 7 (.v 1)),
       (none, .mv 8 (.v 0)),
       (none, .len 9 false (.v 8)),
       (none, .bin 10 .geq (.v 7) (.v 9)),
       (none, .mv 11 (.v 10)),
       (some (11, false), .mv 12 (.v 2)),
       (some (11, false), .bin 13 .lss (.v 12) (.c (.int .i64 1))),
       (none, .pick 14 (.v 11) (.c (.bool true)) (.v 13))])
     (.cond (.v 14)
      (.seq
       (.region [] [] [6] false [
         (none, .asg 6 (.c (.int .i64 0)) .copy)])
       (.ret [6]))
      (.skip [0, 1, 2])))
    (.seq
     (.region [(17, 0, false), (15, 0, false)] [] [6] false [
       (none, .mv 15 (.v 0)),
       (none, .mv 16 (.v 1)),
       (none, .iadr 17 1 (.v 15) (.v 16)),
       (none, .load 18 false 1 (.v 17) none),
       (none, .conv 19 .i64 (.v 18)),
       (none, .mv 20 (.v 2)),
       (none, .bin 21 .rem (.v 19) (.v 20)),
       (none, .asg 6 (.v 21) .copy)])
     (.ret [6]))))⟩
def F386 : PFunc :=
 ⟨[false, false], [.tmp 4],
  (.seq
   (.region [] [] [0, 1] false [
     (none, .asg 4 (.c (.bool false)) .copy)])
   (.seq
    (.region [(9, 1, false), (5, 0, false)] [] [4] false [
      (none, .mv 5 (.v 0)),
      (none, .len 6 false (.v 5)),
      (none, .bin 7 .gtr (.v 6) (.c (.int .i64 3000))),
      (none, .mv 8 (.v 7)),
      (some (8, false), .mv 9 (.v 1)),
      (some (8, false), .len 10 false (.v 9)),
      (some (8, false), .bin 11 .gtr (.v 10) (.c (.int .i64 3000))),
      (none, .pick 12 (.v 8) (.c (.bool true)) (.v 11)),
      (none, .asg 4 (.v 12) .copy)])
    (.ret [4])))⟩
def F603 : PFunc :=
 ⟨[false], [.tmp 2],
  (.seq
   (.region [] [] [0] false [
     (none, .asg 2 (.c .nilp) .copy)])
   (.seq
    (.region [(3, 0, false)] [] [2] false [
      (none, .mv 3 (.v 0)),
      (none, .build 4 [(.sl false 1 []), (.int .i64 0), (.int .u64 0)] [(0, 1, (.v 3), .move)]),
      (none, .box 5 (.v 4) .move),
      (none, .asg 2 (.v 5) .move)])
    (.ret [2])))⟩
def F5 : PFunc :=
 ⟨[true], [.tmp 2],
  (.seq
   (.region [] [] [0] false [
     (none, .asg 2 (.c (.int .i64 0)) .copy)])
   (.seq
    (.region [] [] [0, 3] false [
      (none, .asg 3 (.c (.int .i64 0)) .copy)])
    (.seq
     (.seq
      (.region [(11, 0, true), (10, 0, false), (9, 0, false), (8, 0, false), (6, 0, false), (5, 0, false), (4, 0, false)] [] [0, 3, 13] true [
        (none, .mvr 4 0),
        (none, .nchk 5 (.v 4)),
        (none, .fadr 6 1 1 (.v 5)),
        (none, .load 7 false 1 (.v 6) none),
        (none, .mvr 8 0),
        (none, .nchk 9 (.v 8)),
        (none, .fadr 10 0 1 (.v 9)),
        (none, .load 11 false 1 (.v 10) none),
        (none, .len 12 false (.v 11)),
        (none, .bin 13 .lss (.v 7) (.v 12))])
      (.cond (.v 13)
       (.region [(22, 0, true), (20, 0, false), (19, 0, false), (18, 0, false), (17, 0, true), (16, 0, false), (15, 0, false), (14, 0, false)] [] [0, 3] true [
         (none, .mvr 14 0),
         (none, .nchk 15 (.v 14)),
         (none, .fadr 16 0 1 (.v 15)),
         (none, .load 17 false 1 (.v 16) none),
         (none, .mvr 18 0),
         (none, .nchk 19 (.v 18)),
         (none, .fadr 20 1 1 (.v 19)),
         (none, .load 21 false 1 (.v 20) none),
         (none, .iadr 22 1 (.v 17) (.v 21)),
         (none, .load 23 false 1 (.v 22) none),
         (none, .conv 24 .i64 (.v 23)),
         (none, .asg 3 (.v 24) .copy)])
       (.skip [0, 3])))
     (.seq
      (.region [(31, 0, false), (30, 0, false), (27, 0, false), (26, 0, false), (25, 0, false)] [] [0, 3] false [
        (none, .mv 25 (.v 0)),
        (none, .nchk 26 (.v 25)),
        (none, .fadr 27 1 1 (.v 26)),
        (none, .load 28 false 1 (.v 27) none),
        (none, .bin 29 .add (.v 28) (.c (.int .i64 1))),
        (none, .nchk 30 (.v 25)),
        (none, .fadr 31 1 1 (.v 30)),
        (none, .store 1 (.v 31) (.v 29) .copy)])
      (.seq
       (.region [(43, 0, false), (42, 0, false), (35, 0, false), (34, 0, false), (33, 0, false), (32, 0, false)] [] [0, 3] false [
         (none, .mv 32 (.v 0)),
         (none, .mv 33 (.v 0)),
         (none, .nchk 34 (.v 33)),
         (none, .fadr 35 2 1 (.v 34)),
         (none, .load 36 false 1 (.v 35) none),
         (none, .bin 37 .mul (.v 36) (.c (.int .u64 6364136223846793005))),
         (none, .mv 38 (.v 3)),
         (none, .conv 39 .u64 (.v 38)),
         (none, .bin 40 .add (.v 37) (.v 39)),
         (none, .bin 41 .add (.v 40) (.c (.int .u64 1442695040888963407))),
         (none, .nchk 42 (.v 32)),
         (none, .fadr 43 2 1 (.v 42)),
         (none, .store 1 (.v 43) (.v 41) .copy)])
       (.seq
        (.seq
         (.region [(51, 0, true), (50, 0, false), (49, 0, false), (48, 0, false), (46, 0, false), (45, 0, false), (44, 0, false)] [] [0, 3, 53] true [
           (none, .mvr 44 0),
           (none, .nchk 45 (.v 44)),
           (none, .fadr 46 1 1 (.v 45)),
           (none, .load 47 false 1 (.v 46) none),
           (none, .mvr 48 0),
           (none, .nchk 49 (.v 48)),
           (none, .fadr 50 0 1 (.v 49)),
           (none, .load 51 false 1 (.v 50) none),
           (none, .len 52 false (.v 51)),
           (none, .bin 53 .leq (.v 47) (.v 52))])
         (.cond (.v 53)
          (.seq
           (.region [] [] [0, 2] false [
             (none, .mv 54 (.v 3)),
             (none, .asg 2 (.v 54) .copy)])
           (.ret [0, 2]))
          (.skip [0])))
        (.seq
         (.region [(57, 0, false), (56, 0, false), (55, 0, false)] [] [0, 2] false [
           (none, .mv 55 (.v 0)),
           (none, .nchk 56 (.v 55)),
           (none, .fadr 57 2 1 (.v 56)),
           (none, .load 58 false 1 (.v 57) none),
           (none, .bin 59 .shr (.v 58) (.c (.int .u64 40))),
           (none, .bin 60 .and (.v 59) (.c (.int .u64 255))),
           (none, .conv 61 .i64 (.v 60)),
           (none, .asg 2 (.v 61) .copy)])
         (.ret [0, 2]))))))))⟩
def F7 : PFunc :=
 ⟨[true, false], [.tmp 4],
  (.seq
   (.region [] [] [0, 1] false [
     (none, .asg 4 (.c (.int .i64 0)) .copy)])
   (.seq
    (.seq
     (.region [] [] [0, 1, 7] false [
       (none, .mv 6 (.v 1)),
       (none, .bin 7 .leq (.v 6) (.c (.int .i64 1)))])
     (.cond (.v 7)
      (.seq
       (.region [] [] [0, 4] false [
         (none, .asg 4 (.c (.int .i64 0)) .copy)])
       (.ret [0, 4]))
      (.skip [0, 1])))
    (.seq
     (.region [(8, 0, false)] [] [0, 1, 5] false [
       (none, .mv 8 (.v 0)),
       (none, .call (some 9) 5 true [((.v 8), true)]),
       (none, .asg 5 (.v 9) .copy)])
     (.seq
      (.seq
       (.region [] [] [0, 1, 5, 11] false [
         (none, .mv 10 (.v 1)),
         (none, .bin 11 .gtr (.v 10) (.c (.int .i64 200)))])
       (.cond (.v 11)
        (.region [(14, 0, false)] [] [0, 1, 5] false [
          (none, .mv 12 (.v 5)),
          (none, .bin 13 .mul (.v 12) (.c (.int .i64 256))),
          (none, .mv 14 (.v 0)),
          (none, .call (some 15) 5 true [((.v 14), true)]),
          (none, .bin 16 .add (.v 13) (.v 15)),
          (none, .asg 5 (.v 16) .copy)])
        (.skip [0, 1, 5])))
      (.seq
       (.region [] [] [0, 4] false [
         (none, .mv 17 (.v 5)),
         (none, .mv 18 (.v 1)),
         (none, .bin 19 .rem (.v 17) (.v 18)),
         (none, .asg 4 (.v 19) .copy)])
       (.ret [0, 4]))))))⟩
def F753 : PFunc :=
 ⟨[true], [.tmp 2],
  (.seq
   (.region [] [] [0] false [
     (none, .asg 2 (.c (.str [])) .copy)])
   (.seq
    (.region [] [] [0, 3] false [
      (none, .mksl 6 1 (.int .u8 0) 0 []),
      (none, .asg 3 (.v 6) .move)])
    (.seq
     (.region [(7, 0, false)] [] [0, 3, 4] false [
       (none, .mv 7 (.v 0)),
       (none, .call (some 8) 7 true [((.v 7), true), ((.c (.int .i64 6)), false)]),
       (none, .bin 9 .add (.c (.int .i64 2)) (.v 8)),
       (none, .asg 4 (.v 9) .copy)])
     (.seq
      (.seq
       (.region [(10, 0, false)] [] [0, 3, 4, 5] false [
         (none, .mv 10 (.v 0)),
         (none, .call (some 11) 7 true [((.v 10), true), ((.c (.int .i64 20)), false)]),
         (none, .asg 5 (.v 11) .copy)])
       (.block 0
        (.loop
         (.seq
          (.seq
           (.region [] [] [0, 3, 4, 5, 13] false [
             (none, .mv 12 (.v 5)),
             (none, .bin 13 .gtr (.v 12) (.c (.int .i64 0)))])
           (.cond (.v 13)
            (.skip [0, 3, 4, 5])
            (.exit 0 [0, 3])))
          (.seq
           (.block 1
            (.region [(17, 0, false), (16, 3, false)] [] [0, 3, 4, 5] false [
              (none, .mv 16 (.v 3)),
              (none, .mv 17 (.v 0)),
              (none, .mv 18 (.v 4)),
              (none, .call (some 19) 7 true [((.v 17), true), ((.v 18), false)]),
              (none, .bin 20 .add (.c (.int .i64 97)) (.v 19)),
              (none, .conv 21 .u8 (.v 20)),
              (none, .mksl 22 1 (.int .u8 0) 1 [(0, (.v 21), .copy)]),
              (none, .app 23 1 (.v 16) (.v 22) .move),
              (none, .asg 3 (.v 23) .move)]))
           (.region [] [] [0, 3, 4, 5] false [
             (none, .mv 14 (.v 5)),
             (none, .bin 15 .sub (.v 14) (.c (.int .i64 1))),
             (none, .asg 5 (.v 15) .copy)]))))))
      (.seq
       (.region [(24, 3, false)] [] [0, 2] false [
         (none, .mv 24 (.v 3)),
         (none, .b2s 25 (.v 24)),
         (none, .asg 2 (.v 25) .copy)])
       (.ret [0, 2]))))))⟩
def F433 : PFunc :=
 ⟨[false], [.tmp 2],
  (.seq
   (.region [] [] [0] false [
     (none, .asg 2 (.c (.str [])) .copy)])
   (.seq
    (.region [(3, 0, false)] [] [2] false [
      (none, .mv 3 (.v 0)),
      (none, .call (some 4) 603 true [((.v 3), false)]),
      (none, .call (some 5) 753 true [((.v 4), true)]),
      (none, .asg 2 (.v 5) .copy)])
    (.ret [2])))⟩
def F754 : PFunc :=
 ⟨[false, false, false], [.tmp 6],
  (.seq
   (.region [] [] [0, 1, 2] false [
     (none, .asg 6 (.c (.int .i64 0)) .copy)])
   (.seq
    (.block 0
     (.loop
      (.seq
       (.seq
        (.region [] [] [0, 1, 2, 17] false [
          (none, .mv 7 (.v 2)),
          (none, .mv 8 (.v 0)),
          (none, .len 9 true (.v 8)),
          (none, .bin 10 .lss (.v 7) (.v 9)),
          (none, .mv 11 (.v 10)),
          (some (11, true), .mv 12 (.v 0)),
          (some (11, true), .mv 13 (.v 2)),
          (some (11, true), .idx 14 (.v 12) (.v 13)),
          (some (11, true), .mv 15 (.v 1)),
          (some (11, true), .bin 16 .neq (.v 14) (.v 15)),
          (none, .pick 17 (.v 11) (.v 16) (.c (.bool false)))])
        (.cond (.v 17)
         (.skip [0, 1, 2])
         (.exit 0 [2])))
       (.block 1
        (.region [] [] [0, 1, 2] false [
          (none, .mv 18 (.v 2)),
          (none, .bin 19 .add (.v 18) (.c (.int .i64 1))),
          (none, .asg 2 (.v 19) .copy)])))))
    (.seq
     (.region [] [] [6] false [
       (none, .mv 20 (.v 2)),
       (none, .asg 6 (.v 20) .copy)])
     (.ret [6]))))⟩
def F756 : PFunc :=
 ⟨[false], [.tmp 2],
  (.seq
   (.region [] [] [0] false [
     (none, .asg 2 (.c (.bool false)) .copy)])
   (.seq
    (.seq
     (.region [] [] [0, 3] false [
       (none, .asg 3 (.c (.int .i64 0)) .copy)])
     (.block 0
      (.loop
       (.seq
        (.seq
         (.region [] [] [0, 3, 7] false [
           (none, .mv 4 (.v 3)),
           (none, .mv 5 (.v 0)),
           (none, .len 6 true (.v 5)),
           (none, .bin 7 .lss (.v 4) (.v 6))])
         (.cond (.v 7)
          (.skip [0, 3])
          (.exit 0 [0])))
        (.seq
         (.block 1
          (.seq
           (.region [] [] [0, 3, 19] false [
             (none, .mv 10 (.v 0)),
             (none, .mv 11 (.v 3)),
             (none, .idx 12 (.v 10) (.v 11)),
             (none, .bin 13 .lss (.v 12) (.c (.int .u8 97))),
             (none, .mv 14 (.v 13)),
             (some (14, false), .mv 15 (.v 0)),
             (some (14, false), .mv 16 (.v 3)),
             (some (14, false), .idx 17 (.v 15) (.v 16)),
             (some (14, false), .bin 18 .gtr (.v 17) (.c (.int .u8 122))),
             (none, .pick 19 (.v 14) (.c (.bool true)) (.v 18))])
           (.cond (.v 19)
            (.seq
             (.region [] [] [2] false [
               (none, .asg 2 (.c (.bool false)) .copy)])
             (.ret [2]))
            (.skip [0, 3]))))
         (.region [] [] [0, 3] false [
           (none, .mv 8 (.v 3)),
           (none, .bin 9 .add (.v 8) (.c (.int .i64 1))),
           (none, .asg 3 (.v 9) .copy)]))))))
    (.seq
     (.region [] [] [2] false [
       (none, .mv 20 (.v 0)),
       (none, .len 21 true (.v 20)),
       (none, .bin 22 .leq (.v 21) (.c (.int .i64 40))),
       (none, .asg 2 (.v 22) .copy)])
     (.ret [2]))))⟩
def F573 : PFunc :=
 ⟨[false], [.tmp 2, .tmp 3],
  (.seq
   (.region [] [] [0] false [
     (none, .asg 2 (.c (.int .i64 0)) .copy),
     (none, .asg 3 (.c (.int .i64 0)) .copy)])
   (.seq
    (.seq
     (.region [] [] [0, 8] false [
       (none, .mv 6 (.v 0)),
       (none, .call (some 7) 756 false [((.v 6), false)]),
       (none, .un 8 .not (.v 7))])
     (.cond (.v 8)
      (.seq
       (.region [] [] [2, 3] false [
         (none, .asg 2 (.c (.int .i64 0)) .copy),
         (none, .asg 3 (.c (.int .i64 1)) .copy)])
       (.ret [2, 3]))
      (.skip [0])))
    (.seq
     (.region [] [] [0, 4] false [
       (none, .asg 4 (.c (.int .i64 0)) .copy)])
     (.seq
      (.seq
       (.region [] [] [0, 4, 5] false [
         (none, .asg 5 (.c (.int .i64 0)) .copy)])
       (.block 0
        (.loop
         (.seq
          (.seq
           (.region [] [] [0, 4, 5, 12] false [
             (none, .mv 9 (.v 5)),
             (none, .mv 10 (.v 0)),
             (none, .len 11 true (.v 10)),
             (none, .bin 12 .lss (.v 9) (.v 11))])
           (.cond (.v 12)
            (.skip [0, 4, 5])
            (.exit 0 [4])))
          (.seq
           (.block 1
            (.seq
             (.region [] [] [0, 4, 5, 21] false [
               (none, .mv 15 (.v 0)),
               (none, .mv 16 (.v 0)),
               (none, .mv 17 (.v 5)),
               (none, .idx 18 (.v 16) (.v 17)),
               (none, .call (some 19) 754 false [((.v 15), false), ((.v 18), false), ((.c (.int .i64 0)), false)]),
               (none, .mv 20 (.v 5)),
               (none, .bin 21 .eql (.v 19) (.v 20))])
             (.cond (.v 21)
              (.region [] [] [0, 4, 5] false [
                (none, .mv 22 (.v 4)),
                (none, .bin 23 .add (.v 22) (.c (.int .i64 1))),
                (none, .asg 4 (.v 23) .copy)])
              (.skip [0, 4, 5]))))
           (.region [] [] [0, 4, 5] false [
             (none, .mv 13 (.v 5)),
             (none, .bin 14 .add (.v 13) (.c (.int .i64 1))),
             (none, .asg 5 (.v 14) .copy)]))))))
      (.seq
       (.region [] [] [2, 3] false [
         (none, .mv 24 (.v 4)),
         (none, .asg 2 (.v 24) .copy),
         (none, .asg 3 (.c (.int .i64 0)) .copy)])
       (.ret [2, 3]))))))⟩
def F365 : PFunc :=
 ⟨[false, false], [.tmp 4],
  (.seq
   (.region [] [] [0, 1] false [
     (none, .asg 4 (.c (.bool false)) .copy)])
   (.seq
    (.seq
     (.region [(22, 1, false), (21, 0, false)] [] [0, 1, 23] false [
       (none, .mv 21 (.v 0)),
       (none, .mv 22 (.v 1)),
       (none, .call (some 23) 386 false [((.v 21), false), ((.v 22), false)])])
     (.cond (.v 23)
      (.seq
       (.region [] [] [4] false [
         (none, .asg 4 (.c (.bool true)) .copy)])
       (.ret [4]))
      (.skip [0, 1])))
    (.seq
     (.region [(24, 0, false)] [] [1, 5] false [
       (none, .mv 24 (.v 0)),
       (none, .call (some 25) 433 false [((.v 24), false)]),
       (none, .asg 5 (.v 25) .copy)])
     (.seq
      (.region [(26, 1, false)] [] [5, 6] false [
        (none, .mv 26 (.v 1)),
        (none, .call (some 27) 384 false [((.v 26), false), ((.c (.int .i64 0)), false), ((.c (.int .i64 6)), false)]),
        (none, .bin 28 .add (.c (.int .i64 1)) (.v 27)),
        (none, .asg 6 (.v 28) .copy)])
      (.seq
       (.region [] [] [5, 6, 7, 8] false [
         (none, .mv 30 (.v 5)),
         (none, .mv 31 (.v 6)),
         (none, .call (some 32) 90 false [((.v 30), false), ((.v 31), false)]),
         (none, .asg 29 (.v 32) .copy),
         (none, .extp 33 (.v 29) 0),
         (none, .extp 34 (.v 29) 1),
         (none, .asg 7 (.v 33) .copy),
         (none, .asg 8 (.v 34) .copy)])
       (.seq
        (.region [] [] [5, 6, 7, 8, 9, 10] false [
          (none, .mv 36 (.v 5)),
          (none, .mv 37 (.v 6)),
          (none, .call (some 38) 138 false [((.v 36), false), ((.v 37), false)]),
          (none, .asg 35 (.v 38) .copy),
          (none, .extp 39 (.v 35) 0),
          (none, .extp 40 (.v 35) 1),
          (none, .asg 9 (.v 39) .copy),
          (none, .asg 10 (.v 40) .copy)])
        (.seq
         (.region [] [] [5, 6, 7, 8, 9, 10, 11, 12] false [
           (none, .mv 42 (.v 5)),
           (none, .mv 43 (.v 6)),
           (none, .call (some 44) 135 false [((.v 42), false), ((.v 43), false)]),
           (none, .asg 41 (.v 44) .copy),
           (none, .extp 45 (.v 41) 0),
           (none, .extp 46 (.v 41) 1),
           (none, .asg 11 (.v 45) .copy),
           (none, .asg 12 (.v 46) .copy)])
         (.seq
          (.region [] [] [5, 6, 7, 8, 9, 10, 11, 12, 13, 14] false [
            (none, .mv 48 (.v 5)),
            (none, .call (some 49) 573 false [((.v 48), false)]),
            (none, .asg 47 (.v 49) .copy),
            (none, .extp 50 (.v 47) 0),
            (none, .extp 51 (.v 47) 1),
            (none, .asg 13 (.v 50) .copy),
            (none, .asg 14 (.v 51) .copy)])
          (.seq
           (.region [] [] [5, 6, 7, 8, 9, 10, 11, 12, 13, 14, 15, 16] false [
             (none, .mv 53 (.v 5)),
             (none, .call (some 54) 138 false [((.v 53), false), ((.c (.int .i64 1)), false)]),
             (none, .asg 52 (.v 54) .copy),
             (none, .extp 55 (.v 52) 0),
             (none, .extp 56 (.v 52) 1),
             (none, .asg 15 (.v 55) .copy),
             (none, .asg 16 (.v 56) .copy)])
           (.seq
            (.region [] [] [5, 6, 7, 8, 9, 10, 11, 12, 13, 14, 15, 16, 17, 18] false [
              (none, .mv 58 (.v 5)),
              (none, .mv 59 (.v 6)),
              (none, .bin 60 .add (.v 59) (.c (.int .i64 1))),
              (none, .mm 61 false (.c (.int .i64 6)) [(.v 60)]),
              (none, .call (some 62) 135 false [((.v 58), false), ((.v 61), false)]),
              (none, .asg 57 (.v 62) .copy),
              (none, .extp 63 (.v 57) 0),
              (none, .extp 64 (.v 57) 1),
              (none, .asg 17 (.v 63) .copy),
              (none, .asg 18 (.v 64) .copy)])
            (.seq
             (.seq
              (.region [] [] [5, 6, 9, 11, 13, 15, 101] false [
                (none, .mv 65 (.v 8)),
                (none, .bin 66 .neq (.v 65) (.c (.int .i64 0))),
                (none, .mv 67 (.v 66)),
                (some (67, false), .mv 68 (.v 10)),
                (some (67, false), .bin 69 .neq (.v 68) (.c (.int .i64 0))),
                (none, .pick 70 (.v 67) (.c (.bool true)) (.v 69)),
                (none, .mv 71 (.v 70)),
                (some (71, false), .mv 72 (.v 9)),
                (some (71, false), .mv 73 (.v 7)),
                (some (71, false), .bin 74 .lss (.v 72) (.v 73)),
                (none, .pick 75 (.v 71) (.c (.bool true)) (.v 74)),
                (none, .mv 76 (.v 75)),
                (some (76, false), .mv 77 (.v 12)),
                (some (76, false), .bin 78 .neq (.v 77) (.c (.int .i64 0))),
                (none, .pick 79 (.v 76) (.c (.bool true)) (.v 78)),
                (none, .mv 80 (.v 79)),
                (some (80, false), .mv 81 (.v 11)),
                (some (80, false), .mv 82 (.v 7)),
                (some (80, false), .bin 83 .lss (.v 81) (.v 82)),
                (none, .pick 84 (.v 80) (.c (.bool true)) (.v 83)),
                (none, .mv 85 (.v 84)),
                (some (85, false), .mv 86 (.v 14)),
                (some (85, false), .bin 87 .neq (.v 86) (.c (.int .i64 0))),
                (none, .pick 88 (.v 85) (.c (.bool true)) (.v 87)),
                (none, .mv 89 (.v 88)),
                (some (89, false), .mv 90 (.v 16)),
                (some (89, false), .bin 91 .neq (.v 90) (.c (.int .i64 0))),
                (none, .pick 92 (.v 89) (.c (.bool true)) (.v 91)),
                (none, .mv 93 (.v 92)),
                (some (93, false), .mv 94 (.v 18)),
                (some (93, false), .bin 95 .neq (.v 94) (.c (.int .i64 0))),
                (none, .pick 96 (.v 93) (.c (.bool true)) (.v 95)),
                (none, .mv 97 (.v 96)),
                (some (97, false), .mv 98 (.v 17)),
                (some (97, false), .mv 99 (.v 11)),
                (some (97, false), .bin 100 .gtr (.v 98) (.v 99)),
                (none, .pick 101 (.v 97) (.c (.bool true)) (.v 100))])
              (.cond (.v 101)
               (.seq
                (.region [] [] [4] false [
                  (none, .asg 4 (.c (.bool false)) .copy)])
                (.ret [4]))
               (.skip [5, 6, 9, 11, 13, 15])))
             (.seq
              (.seq
               (.region [] [] [5, 9, 11, 15, 114] false [
                 (none, .mv 102 (.v 6)),
                 (none, .mv 103 (.v 13)),
                 (none, .bin 104 .geq (.v 102) (.v 103)),
                 (none, .mv 105 (.v 104)),
                 (some (105, true), .mv 106 (.v 9)),
                 (some (105, true), .mv 107 (.v 13)),
                 (some (105, true), .bin 108 .neq (.v 106) (.v 107)),
                 (some (105, true), .mv 109 (.v 108)),
                 (some (109, false), .mv 110 (.v 11)),
                 (some (109, false), .mv 111 (.v 13)),
                 (some (109, false), .bin 112 .neq (.v 110) (.v 111)),
                 (some (105, true), .pick 113 (.v 109) (.c (.bool true)) (.v 112)),
                 (none, .pick 114 (.v 105) (.v 113) (.c (.bool false)))])
               (.cond (.v 114)
                (.seq
                 (.region [] [] [4] false [
                   (none, .asg 4 (.c (.bool false)) .copy)])
                 (.ret [4]))
                (.skip [5, 9, 11, 15])))
              (.seq
               (.region [] [] [5, 9, 11, 15, 19] false [
                 (none, .asg 19 (.c (.int .i64 0)) .copy)])
               (.seq
                (.seq
                 (.region [] [] [5, 9, 11, 15, 19, 20] false [
                   (none, .asg 20 (.c (.int .i64 0)) .copy)])
                 (.block 0
                  (.loop
                   (.seq
                    (.seq
                     (.region [] [] [5, 9, 11, 15, 19, 20, 118] false [
                       (none, .mv 115 (.v 20)),
                       (none, .mv 116 (.v 5)),
                       (none, .len 117 true (.v 116)),
                       (none, .bin 118 .lss (.v 115) (.v 117))])
                     (.cond (.v 118)
                      (.skip [5, 9, 11, 15, 19, 20])
                      (.exit 0 [5, 9, 11, 15, 19])))
                    (.seq
                     (.block 1
                      (.seq
                       (.region [] [] [5, 9, 11, 15, 19, 20, 132] true [
                         (none, .mv 121 (.v 20)),
                         (none, .bin 122 .eql (.v 121) (.c (.int .i64 0))),
                         (none, .mv 123 (.v 122)),
                         (some (123, false), .mv 124 (.v 5)),
                         (some (123, false), .mv 125 (.v 20)),
                         (some (123, false), .idx 126 (.v 124) (.v 125)),
                         (some (123, false), .mv 127 (.v 5)),
                         (some (123, false), .mv 128 (.v 20)),
                         (some (123, false), .bin 129 .sub (.v 128) (.c (.int .i64 1))),
                         (some (123, false), .idx 130 (.v 127) (.v 129)),
                         (some (123, false), .bin 131 .neq (.v 126) (.v 130)),
                         (none, .pick 132 (.v 123) (.c (.bool true)) (.v 131))])
                       (.cond (.v 132)
                        (.region [] [] [5, 9, 11, 15, 19, 20] false [
                          (none, .mv 133 (.v 19)),
                          (none, .bin 134 .add (.v 133) (.c (.int .i64 1))),
                          (none, .asg 19 (.v 134) .copy)])
                        (.skip [5, 9, 11, 15, 19, 20]))))
                     (.region [] [] [5, 9, 11, 15, 19, 20] false [
                       (none, .mv 119 (.v 20)),
                       (none, .bin 120 .add (.v 119) (.c (.int .i64 1))),
                       (none, .asg 20 (.v 120) .copy)]))))))
                (.seq
                 (.region [] [] [4] false [
                   (none, .mv 135 (.v 15)),
                   (none, .mv 136 (.v 19)),
                   (none, .bin 137 .eql (.v 135) (.v 136)),
                   (none, .mv 138 (.v 137)),
                   (some (138, true), .mv 139 (.v 9)),
                   (some (138, true), .mv 140 (.v 5)),
                   (some (138, true), .len 141 true (.v 140)),
                   (some (138, true), .bin 142 .leq (.v 139) (.v 141)),
                   (none, .pick 143 (.v 138) (.v 142) (.c (.bool false))),
                   (none, .mv 144 (.v 143)),
                   (some (144, true), .mv 145 (.v 11)),
                   (some (144, true), .mv 146 (.v 5)),
                   (some (144, true), .len 147 true (.v 146)),
                   (some (144, true), .bin 148 .leq (.v 145) (.v 147)),
                   (none, .pick 149 (.v 144) (.v 148) (.c (.bool false))),
                   (none, .asg 4 (.v 149) .copy)])
                 (.ret [4]))))))))))))))))⟩
def tabl : List (Nat × PFunc) := [(830, F830), (250, F250), (290, F290), (277, F277), (229, F229), (326, F326), (307, F307), (90, F90), (291, F291), (135, F135), (138, F138), (384, F384), (386, F386), (603, F603), (5, F5), (7, F7), (753, F753), (433, F433), (754, F754), (756, F756), (573, F573), (365, F365)]
def T : Nat → Option PFunc := tabOf tabl
end Go.Vs.G
