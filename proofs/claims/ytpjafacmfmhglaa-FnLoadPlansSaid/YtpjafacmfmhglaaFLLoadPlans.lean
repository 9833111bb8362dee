/- The functions that the law reaches, in the small language, printed by program. No conditions. -/
import Derived.Test.YtpjafacmfmhglaaDLLoadPlans
import Derived.Test.YtpjafacmfmhglaaV4
set_option maxRecDepth 100000
open Go Go.Vs
namespace Go.Vs.G
def F830 : PFunc :=
 ⟨[false, false], [.tmp 4],
  (.seq
   (.region [] [] [0, 1] false [
     (none, .asg 4 (.c (.int .i64 0)) .copy)])
   (.seq
    (.seq
     (.region [(6, 0, false)] [] [0, 1, 7, 8] false [
       (none, .mv 6 (.v 0)),
       (none, .len 7 false (.v 6)),
       (none, .mv 8 (.c (.int .i64 0)))])
     (.block 0
      (.loop
       (.seq
        (.region [] [] [0, 1, 7, 8, 9] false [
          (none, .bin 9 .lss (.v 8) (.v 7))])
        (.seq
         (.cond (.v 9)
          (.skip [0, 1, 7, 8])
          (.exit 0 []))
         (.seq
          (.block 1
           (.seq
            (.region [] [] [0, 1, 5, 7, 8] false [
              (none, .mv 10 (.v 8)),
              (none, .asg 5 (.v 10) .copy)])
            (.seq
             (.region [(14, 0, false), (12, 0, false)] [] [0, 1, 5, 7, 8, 16] false [
               (none, .mv 11 (.v 1)),
               (none, .mv 12 (.v 0)),
               (none, .mv 13 (.v 5)),
               (none, .iadr 14 1 (.v 12) (.v 13)),
               (none, .load 15 false 1 (.v 14) none),
               (none, .bin 16 .eql (.v 11) (.v 15))])
             (.cond (.v 16)
              (.seq
               (.region [] [] [4] false [
                 (none, .mv 17 (.v 5)),
                 (none, .asg 4 (.v 17) .copy)])
               (.ret [4]))
              (.skip [0, 1, 7, 8])))))
          (.region [] [] [0, 1, 7, 8] false [
            (none, .bin 18 .add (.v 8) (.c (.int .i64 1))),
            (none, .mv 8 (.v 18))])))))))
    (.seq
     (.region [] [] [4] false [
       (none, .asg 4 (.c (.int .i64 (-1))) .copy)])
     (.ret [4]))))⟩
def F250 : PFunc :=
 ⟨[false, false], [.tmp 4],
  (.seq
   (.region [] [] [0, 1] false [
     (none, .asg 4 (.c (.sl true 1 [])) .copy)])
   (.seq
    (.region [] [] [0, 5, 6] true [
      (none, .mksl 13 1 (.int .i64 0) 0 []),
      (none, .mv 14 (.v 1)),
      (none, .make 15 1 (.int .u8 0) (.v 14)),
      (none, .asg 5 (.v 13) .move),
      (none, .asg 6 (.v 15) .move)])
    (.seq
     (.seq
      (.region [] [] [0, 5, 6, 17, 18] false [
        (none, .mv 16 (.v 0)),
        (none, .len 17 true (.v 16)),
        (none, .mv 18 (.c (.int .i64 0)))])
      (.block 0
       (.loop
        (.seq
         (.region [] [] [0, 5, 6, 17, 18, 19] false [
           (none, .bin 19 .lss (.v 18) (.v 17))])
         (.seq
          (.cond (.v 19)
           (.skip [0, 5, 6, 17, 18])
           (.exit 0 [5]))
          (.seq
           (.block 1
            (.seq
             (.region [] [] [0, 5, 6, 7, 17, 18] false [
               (none, .mv 20 (.v 18)),
               (none, .asg 7 (.v 20) .copy)])
             (.seq
              (.region [(21, 6, false)] [] [0, 5, 6, 7, 8, 17, 18] false [
                (none, .mv 21 (.v 6)),
                (none, .mv 22 (.v 0)),
                (none, .mv 23 (.v 7)),
                (none, .idx 24 (.v 22) (.v 23)),
                (none, .call (some 25) 830 false [((.v 21), false), ((.v 24), false)]),
                (none, .asg 8 (.v 25) .copy)])
              (.seq
               (.seq
                (.region [] [] [0, 5, 6, 7, 8, 17, 18, 27] false [
                  (none, .mv 26 (.v 8)),
                  (none, .bin 27 .lss (.v 26) (.c (.int .i64 0)))])
                (.cond (.v 27)
                 (.region [(28, 6, false)] [] [0, 5, 6, 7, 8, 17, 18] false [
                   (none, .mv 28 (.v 6)),
                   (none, .call (some 29) 830 false [((.v 28), false), ((.c (.int .u8 0)), false)]),
                   (none, .asg 8 (.v 29) .copy)])
                 (.skip [0, 5, 6, 7, 8, 17, 18])))
               (.seq
                (.seq
                 (.region [] [] [0, 5, 6, 7, 8, 17, 18, 31] false [
                   (none, .mv 30 (.v 8)),
                   (none, .bin 31 .lss (.v 30) (.c (.int .i64 0)))])
                 (.cond (.v 31)
                  (.seq
                   (.region [] [] [0, 5, 6, 7, 8, 17, 18] false [
                     (none, .asg 8 (.c (.int .i64 0)) .copy)])
                   (.seq
                    (.region [] [] [0, 5, 6, 7, 8, 9, 17, 18] false [
                      (none, .asg 9 (.c (.int .i64 (-1))) .copy)])
                    (.seq
                     (.region [(32, 6, false)] [] [0, 5, 6, 7, 8, 9, 17, 18, 32, 33, 34] false [
                       (none, .mv 32 (.v 6)),
                       (none, .len 33 false (.v 32)),
                       (none, .mv 34 (.c (.int .i64 0)))])
                     (.block 2
                      (.loop
                       (.seq
                        (.region [(32, 6, false)] [] [0, 5, 6, 7, 8, 9, 17, 18, 32, 33, 34, 35] false [
                          (none, .bin 35 .lss (.v 34) (.v 33))])
                        (.seq
                         (.cond (.v 35)
                          (.skip [0, 5, 6, 7, 8, 9, 17, 18, 32, 33, 34])
                          (.exit 2 [0, 5, 6, 7, 8, 17, 18]))
                         (.seq
                          (.block 3
                           (.seq
                            (.region [(37, 6, false), (32, 6, false)] [] [0, 5, 6, 7, 8, 9, 10, 11, 17, 18, 32, 33, 34] false [
                              (none, .mv 36 (.v 34)),
                              (none, .iadr 37 1 (.v 32) (.v 34)),
                              (none, .load 38 false 1 (.v 37) none),
                              (none, .asg 10 (.v 36) .copy),
                              (none, .asg 11 (.v 38) .copy)])
                            (.seq
                             (.region [(32, 6, false)] [] [0, 5, 6, 7, 8, 9, 10, 12, 17, 18, 32, 33, 34] false [
                               (none, .mv 39 (.v 0)),
                               (none, .mv 40 (.v 7)),
                               (none, .slc 41 true 0 (.v 39) (some (.v 40)) none .copy),
                               (none, .mv 42 (.v 11)),
                               (none, .call (some 43) 873 false [((.v 41), false), ((.v 42), false)]),
                               (none, .asg 12 (.v 43) .copy)])
                             (.seq
                              (.seq
                               (.region [(32, 6, false)] [] [0, 5, 6, 7, 8, 9, 10, 12, 17, 18, 32, 33, 34, 45] false [
                                 (none, .mv 44 (.v 12)),
                                 (none, .bin 45 .lss (.v 44) (.c (.int .i64 0)))])
                               (.cond (.v 45)
                                (.seq
                                 (.region [] [] [0, 5, 6, 7, 8, 17, 18] false [
                                   (none, .mv 46 (.v 10)),
                                   (none, .asg 8 (.v 46) .copy)])
                                 (.exit 2 [0, 5, 6, 7, 8, 17, 18]))
                                (.skip [0, 5, 6, 7, 8, 9, 10, 12, 17, 18, 32, 33, 34])))
                              (.seq
                               (.region [(32, 6, false)] [] [0, 5, 6, 7, 8, 9, 10, 12, 17, 18, 32, 33, 34, 49] false [
                                 (none, .mv 47 (.v 12)),
                                 (none, .mv 48 (.v 9)),
                                 (none, .bin 49 .gtr (.v 47) (.v 48))])
                               (.cond (.v 49)
                                (.region [(32, 6, false)] [] [0, 5, 6, 7, 8, 9, 17, 18, 32, 33, 34] false [
                                  (none, .mv 50 (.v 10)),
                                  (none, .mv 51 (.v 12)),
                                  (none, .asg 8 (.v 50) .copy),
                                  (none, .asg 9 (.v 51) .copy)])
                                (.skip [0, 5, 6, 7, 8, 9, 17, 18, 32, 33, 34])))))))
                          (.region [(32, 6, false)] [] [0, 5, 6, 7, 8, 9, 17, 18, 32, 33, 34] false [
                            (none, .bin 52 .add (.v 34) (.c (.int .i64 1))),
                            (none, .mv 34 (.v 52))])))))))))
                  (.skip [0, 5, 6, 7, 8, 17, 18])))
                (.seq
                 (.region [(58, 6, false), (53, 6, false)] [] [0, 5, 6, 8, 17, 18] false [
                   (none, .mv 53 (.v 6)),
                   (none, .mv 54 (.v 8)),
                   (none, .mv 55 (.v 0)),
                   (none, .mv 56 (.v 7)),
                   (none, .idx 57 (.v 55) (.v 56)),
                   (none, .iadr 58 1 (.v 53) (.v 54)),
                   (none, .store 1 (.v 58) (.v 57) .copy)])
                 (.region [(59, 5, false)] [] [0, 5, 6, 17, 18] false [
                   (none, .mv 59 (.v 5)),
                   (none, .mv 60 (.v 8)),
                   (none, .mksl 61 1 (.int .i64 0) 1 [(0, (.v 60), .copy)]),
                   (none, .app 62 1 (.v 59) (.v 61) .move),
                   (none, .asg 5 (.v 62) .move)])))))))
           (.region [] [] [0, 5, 6, 17, 18] false [
             (none, .bin 63 .add (.v 18) (.c (.int .i64 1))),
             (none, .mv 18 (.v 63))])))))))
     (.seq
      (.region [(64, 5, false)] [] [4] false [
        (none, .mv 64 (.v 5)),
        (none, .asg 4 (.v 64) .move)])
      (.ret [4])))))⟩
def F290 : PFunc :=
 ⟨[false, false, false], [.tmp 6],
  (.seq
   (.region [] [] [0, 1, 2] false [
     (none, .asg 6 (.c (.int .i64 0)) .copy)])
   (.seq
    (.region [] [] [0, 2, 7, 8] false [
      (none, .mv 11 (.v 1)),
      (none, .make 12 1 (.int .u8 0) (.v 11)),
      (none, .asg 7 (.v 12) .move),
      (none, .asg 8 (.c (.int .i64 0)) .copy)])
    (.seq
     (.seq
      (.region [(13, 2, false)] [] [0, 2, 7, 8, 13, 14, 15] false [
        (none, .mv 13 (.v 2)),
        (none, .len 14 false (.v 13)),
        (none, .mv 15 (.c (.int .i64 0)))])
      (.block 0
       (.loop
        (.seq
         (.region [(13, 2, false)] [] [0, 2, 7, 8, 13, 14, 15, 16] false [
           (none, .bin 16 .lss (.v 15) (.v 14))])
         (.seq
          (.cond (.v 16)
           (.skip [0, 2, 7, 8, 13, 14, 15])
           (.exit 0 [8]))
          (.seq
           (.block 1
            (.seq
             (.region [(18, 2, false), (13, 2, false)] [] [0, 2, 7, 8, 9, 10, 13, 14, 15] false [
               (none, .mv 17 (.v 15)),
               (none, .iadr 18 1 (.v 13) (.v 15)),
               (none, .load 19 false 1 (.v 18) none),
               (none, .asg 9 (.v 17) .copy),
               (none, .asg 10 (.v 19) .copy)])
             (.seq
              (.region [(22, 7, false), (20, 7, false), (13, 2, false)] [] [0, 2, 7, 8, 9, 10, 13, 14, 15, 27] true [
                (none, .mvr 20 7),
                (none, .mv 21 (.v 10)),
                (none, .iadr 22 1 (.v 20) (.v 21)),
                (none, .load 23 false 1 (.v 22) none),
                (none, .mv 24 (.v 0)),
                (none, .mv 25 (.v 9)),
                (none, .idx 26 (.v 24) (.v 25)),
                (none, .bin 27 .neq (.v 23) (.v 26))])
              (.cond (.v 27)
               (.seq
                (.region [(33, 7, false), (28, 7, false), (13, 2, false)] [] [0, 2, 7, 8, 13, 14, 15] false [
                  (none, .mv 28 (.v 7)),
                  (none, .mv 29 (.v 10)),
                  (none, .mv 30 (.v 0)),
                  (none, .mv 31 (.v 9)),
                  (none, .idx 32 (.v 30) (.v 31)),
                  (none, .iadr 33 1 (.v 28) (.v 29)),
                  (none, .store 1 (.v 33) (.v 32) .copy)])
                (.region [(13, 2, false)] [] [0, 2, 7, 8, 13, 14, 15] false [
                  (none, .mv 34 (.v 8)),
                  (none, .bin 35 .add (.v 34) (.c (.int .i64 1))),
                  (none, .asg 8 (.v 35) .copy)]))
               (.skip [0, 2, 7, 8, 13, 14, 15])))))
           (.region [(13, 2, false)] [] [0, 2, 7, 8, 13, 14, 15] false [
             (none, .bin 36 .add (.v 15) (.c (.int .i64 1))),
             (none, .mv 15 (.v 36))])))))))
     (.seq
      (.region [] [] [6] false [
        (none, .mv 37 (.v 8)),
        (none, .asg 6 (.v 37) .copy)])
      (.ret [6])))))⟩
def F277 : PFunc :=
 ⟨[false, false], [.tmp 4],
  (.seq
   (.region [] [] [0, 1] false [
     (none, .asg 4 (.c (.bool false)) .copy)])
   (.seq
    (.seq
     (.region [] [] [0, 1, 5] false [
       (none, .asg 5 (.c (.int .i64 0)) .copy)])
     (.block 0
      (.loop
       (.seq
        (.seq
         (.region [] [] [0, 1, 5, 9] false [
           (none, .mv 6 (.v 5)),
           (none, .mv 7 (.v 0)),
           (none, .len 8 true (.v 7)),
           (none, .bin 9 .lss (.v 6) (.v 8))])
         (.cond (.v 9)
          (.skip [0, 1, 5])
          (.exit 0 [0, 1])))
        (.seq
         (.block 1
          (.seq
           (.region [] [] [0, 1, 5, 21] false [
             (none, .mv 12 (.v 0)),
             (none, .mv 13 (.v 5)),
             (none, .idx 14 (.v 12) (.v 13)),
             (none, .bin 15 .lss (.v 14) (.c (.int .u8 97))),
             (none, .mv 16 (.v 15)),
             (some (16, false), .mv 17 (.v 0)),
             (some (16, false), .mv 18 (.v 5)),
             (some (16, false), .idx 19 (.v 17) (.v 18)),
             (some (16, false), .bin 20 .gtr (.v 19) (.c (.int .u8 122))),
             (none, .pick 21 (.v 16) (.c (.bool true)) (.v 20))])
           (.cond (.v 21)
            (.seq
             (.region [] [] [4] false [
               (none, .asg 4 (.c (.bool false)) .copy)])
             (.ret [4]))
            (.skip [0, 1, 5]))))
         (.region [] [] [0, 1, 5] false [
           (none, .mv 10 (.v 5)),
           (none, .bin 11 .add (.v 10) (.c (.int .i64 1))),
           (none, .asg 5 (.v 11) .copy)]))))))
    (.seq
     (.region [] [] [4] false [
       (none, .mv 22 (.v 0)),
       (none, .len 23 true (.v 22)),
       (none, .bin 24 .geq (.v 23) (.c (.int .i64 1))),
       (none, .mv 25 (.v 24)),
       (some (25, true), .mv 26 (.v 0)),
       (some (25, true), .len 27 true (.v 26)),
       (some (25, true), .mv 28 (.v 1)),
       (some (25, true), .bin 29 .leq (.v 27) (.v 28)),
       (none, .pick 30 (.v 25) (.v 29) (.c (.bool false))),
       (none, .asg 4 (.v 30) .copy)])
     (.ret [4]))))⟩
def F229 : PFunc :=
 ⟨[false], [.tmp 2],
  (.seq
   (.region [] [] [0] false [
     (none, .asg 2 (.c (.bool false)) .copy)])
   (.seq
    (.region [] [] [2] false [
      (none, .mv 3 (.v 0)),
      (none, .bin 4 .eql (.v 3) (.c (.str []))),
      (none, .mv 5 (.v 4)),
      (some (5, false), .mv 6 (.v 0)),
      (some (5, false), .call (some 7) 277 false [((.v 6), false), ((.c (.int .i64 40)), false)]),
      (none, .pick 8 (.v 5) (.c (.bool true)) (.v 7)),
      (none, .asg 2 (.v 8) .copy)])
    (.ret [2])))⟩
def F326 : PFunc :=
 ⟨[false, false, false], [.tmp 6],
  (.seq
   (.region [] [] [0, 1, 2] false [
     (none, .asg 6 (.c (.bool false)) .copy)])
   (.seq
    (.region [] [] [6] false [
      (none, .mv 7 (.v 0)),
      (none, .mv 8 (.v 1)),
      (none, .bin 9 .geq (.v 7) (.v 8)),
      (none, .mv 10 (.v 9)),
      (some (10, true), .mv 11 (.v 0)),
      (some (10, true), .mv 12 (.v 2)),
      (some (10, true), .bin 13 .leq (.v 11) (.v 12)),
      (none, .pick 14 (.v 10) (.v 13) (.c (.bool false))),
      (none, .asg 6 (.v 14) .copy)])
    (.ret [6])))⟩
def F307 : PFunc :=
 ⟨[false, false], [.tmp 4],
  (.seq
   (.region [] [] [0, 1] false [
     (none, .asg 4 (.c (.int .i64 0)) .copy)])
   (.seq
    (.block 0
     (.seq
      (.region [] [] [1, 5] false [
        (none, .mv 6 (.v 0)),
        (none, .call (some 7) 229 false [((.v 6), false)]),
        (none, .un 8 .not (.v 7)),
        (none, .asg 5 (.v 8) .copy)])
      (.cond (.v 5)
       (.seq
        (.region [] [] [4] false [
          (none, .asg 4 (.c (.int .i64 1)) .copy)])
        (.ret [4]))
       (.seq
        (.region [] [] [9] false [
          (none, .mv 10 (.v 1)),
          (none, .call (some 11) 326 false [((.v 10), false), ((.c (.int .i64 1)), false), ((.c (.int .i64 6)), false)]),
          (none, .un 12 .not (.v 11)),
          (none, .asg 9 (.v 12) .copy)])
        (.cond (.v 9)
         (.seq
          (.region [] [] [4] false [
            (none, .asg 4 (.c (.int .i64 2)) .copy)])
          (.ret [4]))
         (.skip []))))))
    (.seq
     (.region [] [] [4] false [
       (none, .asg 4 (.c (.int .i64 0)) .copy)])
     (.ret [4]))))⟩
def F90 : PFunc :=
 ⟨[false, false], [.tmp 4, .tmp 5],
  (.seq
   (.region [] [] [0, 1] false [
     (none, .asg 4 (.c (.int .i64 0)) .copy),
     (none, .asg 5 (.c (.int .i64 0)) .copy)])
   (.seq
    (.seq
     (.region [] [] [0, 1, 6] false [
       (none, .mv 7 (.v 0)),
       (none, .mv 8 (.v 1)),
       (none, .call (some 9) 307 false [((.v 7), false), ((.v 8), false)]),
       (none, .asg 6 (.v 9) .copy)])
     (.seq
      (.region [] [] [0, 1, 6, 11] false [
        (none, .mv 10 (.v 6)),
        (none, .bin 11 .neq (.v 10) (.c (.int .i64 0)))])
      (.cond (.v 11)
       (.seq
        (.region [] [] [4, 5] false [
          (none, .mv 12 (.v 6)),
          (none, .asg 4 (.c (.int .i64 0)) .copy),
          (none, .asg 5 (.v 12) .copy)])
        (.ret [4, 5]))
       (.skip [0, 1]))))
    (.seq
     (.region [] [] [4, 5] false [
       (none, .mv 13 (.v 0)),
       (none, .mv 14 (.v 1)),
       (none, .mv 15 (.v 0)),
       (none, .mv 16 (.v 1)),
       (none, .call (some 17) 250 false [((.v 15), false), ((.v 16), false)]),
       (none, .call (some 18) 290 false [((.v 13), false), ((.v 14), false), ((.v 17), false)]),
       (none, .asg 4 (.v 18) .copy),
       (none, .asg 5 (.c (.int .i64 0)) .copy)])
     (.ret [4, 5]))))⟩
def F122 : PFunc :=
 ⟨[false, false], [.tmp 4, .tmp 5],
  (.seq
   (.region [] [] [0, 1] false [
     (none, .asg 4 (.c (.int .i64 0)) .copy),
     (none, .asg 5 (.c (.int .i64 0)) .copy)])
   (.seq
    (.block 0
     (.seq
      (.region [] [] [0, 1, 7] false [
        (none, .mv 8 (.v 0)),
        (none, .call (some 9) 229 false [((.v 8), false)]),
        (none, .un 10 .not (.v 9)),
        (none, .asg 7 (.v 10) .copy)])
      (.cond (.v 7)
       (.seq
        (.region [] [] [4, 5] false [
          (none, .asg 4 (.c (.int .i64 0)) .copy),
          (none, .asg 5 (.c (.int .i64 1)) .copy)])
        (.ret [4, 5]))
       (.seq
        (.region [] [] [0, 1, 11] false [
          (none, .mv 12 (.v 1)),
          (none, .call (some 13) 326 false [((.v 12), false), ((.c (.int .i64 0)), false), ((.c (.int .i64 40)), false)]),
          (none, .un 14 .not (.v 13)),
          (none, .asg 11 (.v 14) .copy)])
        (.cond (.v 11)
         (.seq
          (.region [] [] [4, 5] false [
            (none, .asg 4 (.c (.int .i64 0)) .copy),
            (none, .asg 5 (.c (.int .i64 2)) .copy)])
          (.ret [4, 5]))
         (.skip [0, 1]))))))
    (.seq
     (.seq
      (.region [] [] [0, 1, 6] false [
        (none, .asg 6 (.c (.int .i64 1)) .copy)])
      (.block 1
       (.loop
        (.seq
         (.seq
          (.region [] [] [0, 1, 6, 16] false [
            (none, .mv 15 (.v 6)),
            (none, .bin 16 .leq (.v 15) (.c (.int .i64 6)))])
          (.cond (.v 16)
           (.skip [0, 1, 6])
           (.exit 1 [])))
         (.seq
          (.block 2
           (.seq
            (.region [] [] [0, 1, 6, 26] false [
              (none, .mv 19 (.v 0)),
              (none, .mv 20 (.v 6)),
              (none, .mv 21 (.v 0)),
              (none, .mv 22 (.v 6)),
              (none, .call (some 23) 250 false [((.v 21), false), ((.v 22), false)]),
              (none, .call (some 24) 290 false [((.v 19), false), ((.v 20), false), ((.v 23), false)]),
              (none, .mv 25 (.v 1)),
              (none, .bin 26 .leq (.v 24) (.v 25))])
            (.cond (.v 26)
             (.seq
              (.region [] [] [4, 5] false [
                (none, .mv 27 (.v 6)),
                (none, .asg 4 (.v 27) .copy),
                (none, .asg 5 (.c (.int .i64 0)) .copy)])
              (.ret [4, 5]))
             (.skip [0, 1, 6]))))
          (.region [] [] [0, 1, 6] false [
            (none, .mv 17 (.v 6)),
            (none, .bin 18 .add (.v 17) (.c (.int .i64 1))),
            (none, .asg 6 (.v 18) .copy)]))))))
     (.seq
      (.region [] [] [4, 5] false [
        (none, .asg 4 (.c (.int .i64 0)) .copy),
        (none, .asg 5 (.c (.int .i64 3)) .copy)])
      (.ret [4, 5])))))⟩
def F157 : PFunc :=
 ⟨[false, false], [.tmp 4, .tmp 5],
  (.seq
   (.region [] [] [0, 1] false [
     (none, .asg 4 (.c (.int .i64 0)) .copy),
     (none, .asg 5 (.c (.int .i64 0)) .copy)])
   (.seq
    (.block 0
     (.seq
      (.region [] [] [0, 1, 7] false [
        (none, .mv 8 (.v 0)),
        (none, .call (some 9) 229 false [((.v 8), false)]),
        (none, .un 10 .not (.v 9)),
        (none, .asg 7 (.v 10) .copy)])
      (.cond (.v 7)
       (.seq
        (.region [] [] [4, 5] false [
          (none, .asg 4 (.c (.int .i64 0)) .copy),
          (none, .asg 5 (.c (.int .i64 1)) .copy)])
        (.ret [4, 5]))
       (.seq
        (.region [] [] [0, 1, 11] false [
          (none, .mv 12 (.v 1)),
          (none, .mv 13 (.v 0)),
          (none, .len 14 true (.v 13)),
          (none, .bin 15 .sub (.v 14) (.c (.int .i64 1))),
          (none, .call (some 16) 326 false [((.v 12), false), ((.c (.int .i64 0)), false), ((.v 15), false)]),
          (none, .un 17 .not (.v 16)),
          (none, .asg 11 (.v 17) .copy)])
        (.cond (.v 11)
         (.seq
          (.region [] [] [4, 5] false [
            (none, .asg 4 (.c (.int .i64 0)) .copy),
            (none, .asg 5 (.c (.int .i64 2)) .copy)])
          (.ret [4, 5]))
         (.skip [0, 1]))))))
    (.seq
     (.region [] [] [1, 6] true [
       (none, .mv 18 (.v 0)),
       (none, .mv 19 (.v 1)),
       (none, .bin 20 .add (.v 19) (.c (.int .i64 1))),
       (none, .slc 21 true 0 (.v 18) (some (.v 20)) none .copy),
       (none, .mv 22 (.v 0)),
       (none, .mv 23 (.v 1)),
       (none, .idx 24 (.v 22) (.v 23)),
       (none, .call (some 25) 873 false [((.v 21), false), ((.v 24), false)]),
       (none, .asg 6 (.v 25) .copy)])
     (.seq
      (.seq
       (.region [] [] [1, 6, 27] false [
         (none, .mv 26 (.v 6)),
         (none, .bin 27 .lss (.v 26) (.c (.int .i64 0)))])
       (.cond (.v 27)
        (.seq
         (.region [] [] [4, 5] false [
           (none, .asg 4 (.c (.int .i64 0)) .copy),
           (none, .asg 5 (.c (.int .i64 3)) .copy)])
         (.ret [4, 5]))
        (.skip [1, 6])))
      (.seq
       (.region [] [] [4, 5] false [
         (none, .mv 28 (.v 1)),
         (none, .bin 29 .add (.v 28) (.c (.int .i64 1))),
         (none, .mv 30 (.v 6)),
         (none, .bin 31 .add (.v 29) (.v 30)),
         (none, .asg 4 (.v 31) .copy),
         (none, .asg 5 (.c (.int .i64 0)) .copy)])
       (.ret [4, 5]))))))⟩
def F779 : PFunc :=
 ⟨[false], [.tmp 2],
  (.seq
   (.region [] [] [0, 2] false [
     (none, .asg 2 (.c (.int .i64 0)) .copy)])
   (.seq
    (.seq
     (.region [] [] [0, 2, 4] false [
       (none, .mv 3 (.v 0)),
       (none, .bin 4 .geq (.v 3) (.c (.int .u32 65536)))])
     (.cond (.v 4)
      (.seq
       (.region [] [] [0] false [
         (none, .mv 5 (.v 0)),
         (none, .bin 6 .shr (.v 5) (.c (.int .u64 16))),
         (none, .asg 0 (.v 6) .copy)])
       (.region [] [] [0, 2] false [
         (none, .asg 2 (.c (.int .i64 16)) .copy)]))
      (.skip [0, 2])))
    (.seq
     (.seq
      (.region [] [] [0, 2, 8] false [
        (none, .mv 7 (.v 0)),
        (none, .bin 8 .geq (.v 7) (.c (.int .u32 256)))])
      (.cond (.v 8)
       (.seq
        (.region [] [] [0, 2] false [
          (none, .mv 9 (.v 0)),
          (none, .bin 10 .shr (.v 9) (.c (.int .u64 8))),
          (none, .asg 0 (.v 10) .copy)])
        (.region [] [] [0, 2] false [
          (none, .mv 11 (.v 2)),
          (none, .bin 12 .add (.v 11) (.c (.int .i64 8))),
          (none, .asg 2 (.v 12) .copy)]))
       (.skip [0, 2])))
     (.seq
      (.region [] [] [2] false [
        (none, .mv 13 (.v 2)),
        (none, .mv 14 (.v 0)),
        (none, .conv 15 .u8 (.v 14)),
        (none, .idx 16 (.c (.str [0, 1, 2, 2, 3, 3, 3, 3, 4, 4, 4, 4, 4, 4, 4, 4, 5, 5, 5, 5, 5, 5, 5, 5, 5, 5, 5, 5, 5, 5, 5, 5, 6, 6, 6, 6, 6, 6, 6, 6, 6, 6, 6, 6, 6, 6, 6, 6, 6, 6, 6, 6, 6, 6, 6, 6, 6, 6, 6, 6, 6, 6, 6, 6, 7, 7, 7, 7, 7, 7, 7, 7, 7, 7, 7, 7, 7, 7, 7, 7, 7, 7, 7, 7, 7, 7, 7, 7, 7, 7, 7, 7, 7, 7, 7, 7, 7, 7, 7, 7, 7, 7, 7, 7, 7, 7, 7, 7, 7, 7, 7, 7, 7, 7, 7, 7, 7, 7, 7, 7, 7, 7, 7, 7, 7, 7, 7, 7, 8, 8, 8, 8, 8, 8, 8, 8, 8, 8, 8, 8, 8, 8, 8, 8, 8, 8, 8, 8, 8, 8, 8, 8, 8, 8, 8, 8, 8, 8, 8, 8, 8, 8, 8, 8, 8, 8, 8, 8, 8, 8, 8, 8, 8, 8, 8, 8, 8, 8, 8, 8, 8, 8, 8, 8, 8, 8, 8, 8, 8, 8, 8, 8, 8, 8, 8, 8, 8, 8, 8, 8, 8, 8, 8, 8, 8, 8, 8, 8, 8, 8, 8, 8, 8, 8, 8, 8, 8, 8, 8, 8, 8, 8, 8, 8, 8, 8, 8, 8, 8, 8, 8, 8, 8, 8, 8, 8, 8, 8, 8, 8, 8, 8, 8, 8, 8, 8, 8, 8, 8, 8, 8, 8, 8, 8, 8, 8])) (.v 15)),
        (none, .conv 17 .i64 (.v 16)),
        (none, .bin 18 .add (.v 13) (.v 17)),
        (none, .asg 2 (.v 18) .copy)])
      (.ret [2])))))⟩
def F780 : PFunc :=
 ⟨[false], [.tmp 2],
  (.seq
   (.region [] [] [0, 2] false [
     (none, .asg 2 (.c (.int .i64 0)) .copy)])
   (.seq
    (.seq
     (.region [] [] [0, 2, 4] false [
       (none, .mv 3 (.v 0)),
       (none, .bin 4 .geq (.v 3) (.c (.int .u64 4294967296)))])
     (.cond (.v 4)
      (.seq
       (.region [] [] [0] false [
         (none, .mv 5 (.v 0)),
         (none, .bin 6 .shr (.v 5) (.c (.int .u64 32))),
         (none, .asg 0 (.v 6) .copy)])
       (.region [] [] [0, 2] false [
         (none, .asg 2 (.c (.int .i64 32)) .copy)]))
      (.skip [0, 2])))
    (.seq
     (.seq
      (.region [] [] [0, 2, 8] false [
        (none, .mv 7 (.v 0)),
        (none, .bin 8 .geq (.v 7) (.c (.int .u64 65536)))])
      (.cond (.v 8)
       (.seq
        (.region [] [] [0, 2] false [
          (none, .mv 9 (.v 0)),
          (none, .bin 10 .shr (.v 9) (.c (.int .u64 16))),
          (none, .asg 0 (.v 10) .copy)])
        (.region [] [] [0, 2] false [
          (none, .mv 11 (.v 2)),
          (none, .bin 12 .add (.v 11) (.c (.int .i64 16))),
          (none, .asg 2 (.v 12) .copy)]))
       (.skip [0, 2])))
     (.seq
      (.seq
       (.region [] [] [0, 2, 14] false [
         (none, .mv 13 (.v 0)),
         (none, .bin 14 .geq (.v 13) (.c (.int .u64 256)))])
       (.cond (.v 14)
        (.seq
         (.region [] [] [0, 2] false [
           (none, .mv 15 (.v 0)),
           (none, .bin 16 .shr (.v 15) (.c (.int .u64 8))),
           (none, .asg 0 (.v 16) .copy)])
         (.region [] [] [0, 2] false [
           (none, .mv 17 (.v 2)),
           (none, .bin 18 .add (.v 17) (.c (.int .i64 8))),
           (none, .asg 2 (.v 18) .copy)]))
        (.skip [0, 2])))
      (.seq
       (.region [] [] [2] false [
         (none, .mv 19 (.v 2)),
         (none, .mv 20 (.v 0)),
         (none, .conv 21 .u8 (.v 20)),
         (none, .idx 22 (.c (.str [0, 1, 2, 2, 3, 3, 3, 3, 4, 4, 4, 4, 4, 4, 4, 4, 5, 5, 5, 5, 5, 5, 5, 5, 5, 5, 5, 5, 5, 5, 5, 5, 6, 6, 6, 6, 6, 6, 6, 6, 6, 6, 6, 6, 6, 6, 6, 6, 6, 6, 6, 6, 6, 6, 6, 6, 6, 6, 6, 6, 6, 6, 6, 6, 7, 7, 7, 7, 7, 7, 7, 7, 7, 7, 7, 7, 7, 7, 7, 7, 7, 7, 7, 7, 7, 7, 7, 7, 7, 7, 7, 7, 7, 7, 7, 7, 7, 7, 7, 7, 7, 7, 7, 7, 7, 7, 7, 7, 7, 7, 7, 7, 7, 7, 7, 7, 7, 7, 7, 7, 7, 7, 7, 7, 7, 7, 7, 7, 8, 8, 8, 8, 8, 8, 8, 8, 8, 8, 8, 8, 8, 8, 8, 8, 8, 8, 8, 8, 8, 8, 8, 8, 8, 8, 8, 8, 8, 8, 8, 8, 8, 8, 8, 8, 8, 8, 8, 8, 8, 8, 8, 8, 8, 8, 8, 8, 8, 8, 8, 8, 8, 8, 8, 8, 8, 8, 8, 8, 8, 8, 8, 8, 8, 8, 8, 8, 8, 8, 8, 8, 8, 8, 8, 8, 8, 8, 8, 8, 8, 8, 8, 8, 8, 8, 8, 8, 8, 8, 8, 8, 8, 8, 8, 8, 8, 8, 8, 8, 8, 8, 8, 8, 8, 8, 8, 8, 8, 8, 8, 8, 8, 8, 8, 8, 8, 8, 8, 8, 8, 8, 8, 8, 8, 8, 8, 8])) (.v 21)),
         (none, .conv 23 .i64 (.v 22)),
         (none, .bin 24 .add (.v 19) (.v 23)),
         (none, .asg 2 (.v 24) .copy)])
       (.ret [2]))))))⟩
def F778 : PFunc :=
 ⟨[false], [.tmp 2],
  (.seq
   (.region [] [] [0] false [
     (none, .asg 2 (.c (.int .i64 0)) .copy)])
   (.seq
    (.cond (.c (.bool false))
     (.seq
      (.region [] [] [2] false [
        (none, .mv 3 (.v 0)),
        (none, .conv 4 .u32 (.v 3)),
        (none, .call (some 5) 779 false [((.v 4), false)]),
        (none, .asg 2 (.v 5) .copy)])
      (.ret [2]))
     (.skip [0]))
    (.seq
     (.region [] [] [2] false [
       (none, .mv 6 (.v 0)),
       (none, .call (some 7) 780 false [((.v 6), false)]),
       (none, .asg 2 (.v 7) .copy)])
     (.ret [2]))))⟩
def F30 : PFunc :=
 ⟨[false], [.tmp 2],
  (.seq
   (.region [] [] [0] false [
     (none, .asg 2 (.c (.bool false)) .copy)])
   (.seq
    (.region [] [] [2] false [
      (none, .mv 3 (.v 0)),
      (none, .mv 4 (.v 0)),
      (none, .bin 5 .neq (.v 3) (.v 4)),
      (none, .asg 2 (.v 5) .copy)])
    (.ret [2])))⟩
def F28 : PFunc :=
 ⟨[false, false], [.tmp 4],
  (.seq
   (.region [] [] [0, 1] false [
     (none, .asg 4 (.c (.bool false)) .copy)])
   (.seq
    (.region [] [] [4] false [
      (none, .mv 5 (.v 0)),
      (none, .call (some 6) 30 false [((.v 5), false)]),
      (none, .mv 7 (.v 6)),
      (some (7, true), .mv 8 (.v 1)),
      (some (7, true), .call (some 9) 30 false [((.v 8), false)]),
      (some (7, true), .un 10 .not (.v 9)),
      (none, .pick 11 (.v 7) (.v 10) (.c (.bool false))),
      (none, .mv 12 (.v 11)),
      (some (12, false), .mv 13 (.v 0)),
      (some (12, false), .mv 14 (.v 1)),
      (some (12, false), .bin 15 .lss (.v 13) (.v 14)),
      (none, .pick 16 (.v 12) (.c (.bool true)) (.v 15)),
      (none, .asg 4 (.v 16) .copy)])
    (.ret [4])))⟩
def F9 : PFunc :=
 ⟨[true], [.tmp 2],
  (.seq
   (.region [] [] [0] false [
     (none, .asg 2 (.c (.int .u64 0)) .copy)])
   (.seq
    (.region [(11, 0, false), (7, 0, false), (6, 0, false), (4, 0, false), (3, 0, false)] [] [0] true [
      (none, .mvr 3 0),
      (none, .nchk 4 (.v 3)),
      (none, .load 5 false 1 (.v 4) none),
      (none, .mvr 6 0),
      (none, .nchk 7 (.v 6)),
      (none, .load 8 false 1 (.v 7) none),
      (none, .bin 9 .shl (.v 8) (.c (.int .u64 13))),
      (none, .bin 10 .xor (.v 5) (.v 9)),
      (none, .nchk 11 (.v 3)),
      (none, .store 1 (.v 11) (.v 10) .copy)])
    (.seq
     (.region [(20, 0, false), (16, 0, false), (15, 0, false), (13, 0, false), (12, 0, false)] [] [0] true [
       (none, .mvr 12 0),
       (none, .nchk 13 (.v 12)),
       (none, .load 14 false 1 (.v 13) none),
       (none, .mvr 15 0),
       (none, .nchk 16 (.v 15)),
       (none, .load 17 false 1 (.v 16) none),
       (none, .bin 18 .shr (.v 17) (.c (.int .u64 7))),
       (none, .bin 19 .xor (.v 14) (.v 18)),
       (none, .nchk 20 (.v 12)),
       (none, .store 1 (.v 20) (.v 19) .copy)])
     (.seq
      (.region [(29, 0, false), (25, 0, false), (24, 0, false), (22, 0, false), (21, 0, false)] [] [0] true [
        (none, .mvr 21 0),
        (none, .nchk 22 (.v 21)),
        (none, .load 23 false 1 (.v 22) none),
        (none, .mvr 24 0),
        (none, .nchk 25 (.v 24)),
        (none, .load 26 false 1 (.v 25) none),
        (none, .bin 27 .shl (.v 26) (.c (.int .u64 17))),
        (none, .bin 28 .xor (.v 23) (.v 27)),
        (none, .nchk 29 (.v 21)),
        (none, .store 1 (.v 29) (.v 28) .copy)])
      (.seq
       (.region [(31, 0, false), (30, 0, false)] [] [0, 2] false [
         (none, .mv 30 (.v 0)),
         (none, .nchk 31 (.v 30)),
         (none, .load 32 false 1 (.v 31) none),
         (none, .asg 2 (.v 32) .copy)])
       (.ret [0, 2]))))))⟩
def F850 : PFunc :=
 ⟨[false], [.tmp 2],
  (.seq
   (.region [] [] [0] false [
     (none, .asg 2 (.c (.int .u64 0)) .copy)])
   (.seq
    (.region [] [] [2] false [
      (none, .mv 3 (.v 0)),
      (none, .conv 4 .u64 (.v 3)),
      (none, .call (some 5) 778 false [((.v 4), false)]),
      (none, .bin 6 .shl (.c (.int .u64 1)) (.v 5)),
      (none, .asg 2 (.v 6) .copy)])
    (.ret [2])))⟩
def F837 : PFunc :=
 ⟨[true, false, false], [],
  (.seq
   (.region [] [] [0, 1, 6] false [
     (none, .mv 11 (.v 2)),
     (none, .mv 12 (.v 1)),
     (none, .bin 13 .sub (.v 11) (.v 12)),
     (none, .asg 6 (.v 13) .copy)])
   (.seq
    (.region [] [] [0, 1, 6, 15] false [
      (none, .mv 14 (.v 6)),
      (none, .bin 15 .geq (.v 14) (.c (.int .i64 8)))])
    (.cond (.v 15)
     (.seq
      (.region [] [] [0, 1, 6, 7] false [
        (none, .mv 16 (.v 6)),
        (none, .conv 17 .u64 (.v 16)),
        (none, .new 7 (.int .u64 0)),
        (none, .store 1 (.v 7) (.v 17) .copy)])
      (.seq
       (.region [] [] [0, 1, 6, 7, 8] false [
         (none, .mv 18 (.v 6)),
         (none, .call (some 19) 850 false [((.v 18), false)]),
         (none, .asg 8 (.v 19) .copy)])
       (.seq
        (.region [] [] [0, 1, 6, 7, 8, 9] false [
          (none, .mv 20 (.v 1)),
          (none, .mv 21 (.v 6)),
          (none, .bin 22 .quo (.v 21) (.c (.int .i64 4))),
          (none, .bin 23 .mul (.v 22) (.c (.int .i64 2))),
          (none, .bin 24 .add (.v 20) (.v 23)),
          (none, .bin 25 .sub (.v 24) (.c (.int .i64 1))),
          (none, .asg 9 (.v 25) .copy)])
        (.block 0
         (.loop
          (.seq
           (.seq
            (.region [] [] [0, 1, 6, 7, 8, 9, 33] false [
              (none, .mv 26 (.v 9)),
              (none, .mv 27 (.v 1)),
              (none, .mv 28 (.v 6)),
              (none, .bin 29 .quo (.v 28) (.c (.int .i64 4))),
              (none, .bin 30 .mul (.v 29) (.c (.int .i64 2))),
              (none, .bin 31 .add (.v 27) (.v 30)),
              (none, .bin 32 .add (.v 31) (.c (.int .i64 1))),
              (none, .bin 33 .leq (.v 26) (.v 32))])
            (.cond (.v 33)
             (.skip [0, 1, 6, 7, 8, 9])
             (.exit 0 [0])))
           (.seq
            (.block 1
             (.seq
              (.region [] [] [0, 1, 6, 7, 8, 9, 10] false [
                (none, .call (some 36) 9 false [((.v 7), true)]),
                (none, .mv 37 (.v 8)),
                (none, .bin 38 .sub (.v 37) (.c (.int .u64 1))),
                (none, .bin 39 .and (.v 36) (.v 38)),
                (none, .conv 40 .i64 (.v 39)),
                (none, .asg 10 (.v 40) .copy)])
              (.seq
               (.seq
                (.region [] [] [0, 1, 6, 7, 8, 9, 10, 43] false [
                  (none, .mv 41 (.v 10)),
                  (none, .mv 42 (.v 6)),
                  (none, .bin 43 .geq (.v 41) (.v 42))])
                (.cond (.v 43)
                 (.region [] [] [0, 1, 6, 7, 8, 9, 10] false [
                   (none, .mv 44 (.v 10)),
                   (none, .mv 45 (.v 6)),
                   (none, .bin 46 .sub (.v 44) (.v 45)),
                   (none, .asg 10 (.v 46) .copy)])
                 (.skip [0, 1, 6, 7, 8, 9, 10])))
               (.region [(64, 0, false), (63, 0, false), (61, 0, false), (59, 0, false), (57, 0, false), (53, 0, false), (49, 0, false), (47, 0, false)] [] [0, 1, 6, 7, 8, 9] true [
                 (none, .mvr 47 0),
                 (none, .mv 48 (.v 9)),
                 (none, .mvr 49 0),
                 (none, .mv 50 (.v 1)),
                 (none, .mv 51 (.v 10)),
                 (none, .bin 52 .add (.v 50) (.v 51)),
                 (none, .mvr 53 0),
                 (none, .mv 54 (.v 1)),
                 (none, .mv 55 (.v 10)),
                 (none, .bin 56 .add (.v 54) (.v 55)),
                 (none, .iadr 57 1 (.v 53) (.v 56)),
                 (none, .load 58 false 1 (.v 57) none),
                 (none, .mvr 59 0),
                 (none, .mv 60 (.v 9)),
                 (none, .iadr 61 1 (.v 59) (.v 60)),
                 (none, .load 62 false 1 (.v 61) none),
                 (none, .iadr 63 1 (.v 47) (.v 48)),
                 (none, .store 1 (.v 63) (.v 58) .copy),
                 (none, .iadr 64 1 (.v 49) (.v 52)),
                 (none, .store 1 (.v 64) (.v 62) .copy)]))))
            (.region [] [] [0, 1, 6, 7, 8, 9] false [
              (none, .mv 34 (.v 9)),
              (none, .bin 35 .add (.v 34) (.c (.int .i64 1))),
              (none, .asg 9 (.v 35) .copy)]))))))))
     (.skip [0]))))⟩
def F851 : PFunc :=
 ⟨[false, false, false, true], [.tmp 8, .tmp 9],
  (.seq
   (.region [] [] [0, 1, 2, 3] false [
     (none, .asg 8 (.c (.int .i64 0)) .copy),
     (none, .asg 9 (.c (.int .i64 0)) .copy)])
   (.seq
    (.seq
     (.region [(16, 0, false), (14, 0, false), (12, 0, false), (10, 0, false)] [] [1, 2, 3, 18] true [
       (none, .mv 10 (.v 0)),
       (none, .mv 11 (.v 2)),
       (none, .iadr 12 1 (.v 10) (.v 11)),
       (none, .load 13 false 1 (.v 12) none),
       (none, .mv 14 (.v 0)),
       (none, .mv 15 (.v 1)),
       (none, .iadr 16 1 (.v 14) (.v 15)),
       (none, .load 17 false 1 (.v 16) none),
       (none, .call (some 18) 28 false [((.v 13), false), ((.v 17), false)])])
     (.cond (.v 18)
      (.seq
       (.region [(23, 3, false), (20, 3, false), (19, 3, false)] [] [1, 2, 3] false [
         (none, .mv 19 (.v 3)),
         (none, .nchk 20 (.v 19)),
         (none, .load 21 false 1 (.v 20) none),
         (none, .bin 22 .add (.v 21) (.c (.int .i64 1))),
         (none, .nchk 23 (.v 19)),
         (none, .store 1 (.v 23) (.v 22) .copy)])
       (.seq
        (.region [] [] [3, 8, 9] false [
          (none, .mv 24 (.v 2)),
          (none, .mv 25 (.v 1)),
          (none, .asg 8 (.v 24) .copy),
          (none, .asg 9 (.v 25) .copy)])
        (.ret [3, 8, 9])))
      (.skip [1, 2, 3])))
    (.seq
     (.region [] [] [3, 8, 9] false [
       (none, .mv 26 (.v 1)),
       (none, .mv 27 (.v 2)),
       (none, .asg 8 (.v 26) .copy),
       (none, .asg 9 (.v 27) .copy)])
     (.ret [3, 8, 9]))))⟩
def F848 : PFunc :=
 ⟨[false, false, false, false, true], [.tmp 10],
  (.seq
   (.region [] [] [0, 1, 2, 3, 4] false [
     (none, .asg 10 (.c (.int .i64 0)) .copy)])
   (.seq
    (.region [(15, 4, false), (12, 0, false)] [] [0, 1, 2, 3, 4] false [
      (none, .mv 12 (.v 0)),
      (none, .mv 13 (.v 1)),
      (none, .mv 14 (.v 2)),
      (none, .mv 15 (.v 4)),
      (none, .call (some 16) 851 false [((.v 12), false), ((.v 13), false), ((.v 14), false), ((.v 15), true)]),
      (none, .asg 11 (.v 16) .copy),
      (none, .extp 17 (.v 11) 0),
      (none, .extp 18 (.v 11) 1),
      (none, .asg 1 (.v 17) .copy),
      (none, .asg 2 (.v 18) .copy)])
    (.seq
     (.region [(23, 4, false), (20, 0, false)] [] [0, 1, 2, 4] false [
       (none, .mv 20 (.v 0)),
       (none, .mv 21 (.v 2)),
       (none, .mv 22 (.v 3)),
       (none, .mv 23 (.v 4)),
       (none, .call (some 24) 851 false [((.v 20), false), ((.v 21), false), ((.v 22), false), ((.v 23), true)]),
       (none, .asg 19 (.v 24) .copy),
       (none, .extp 25 (.v 19) 0),
       (none, .extp 26 (.v 19) 1),
       (none, .asg 2 (.v 25) .copy),
       (none, .asg 3 (.v 26) .copy)])
     (.seq
      (.region [(31, 4, false), (28, 0, false)] [] [2, 4] false [
        (none, .mv 28 (.v 0)),
        (none, .mv 29 (.v 1)),
        (none, .mv 30 (.v 2)),
        (none, .mv 31 (.v 4)),
        (none, .call (some 32) 851 false [((.v 28), false), ((.v 29), false), ((.v 30), false), ((.v 31), true)]),
        (none, .asg 27 (.v 32) .copy),
        (none, .extp 33 (.v 27) 0),
        (none, .extp 34 (.v 27) 1),
        (none, .asg 1 (.v 33) .copy),
        (none, .asg 2 (.v 34) .copy)])
      (.seq
       (.region [] [] [4, 10] false [
         (none, .mv 35 (.v 2)),
         (none, .asg 10 (.v 35) .copy)])
       (.ret [4, 10]))))))⟩
def F846 : PFunc :=
 ⟨[false, false, true], [.tmp 6],
  (.seq
   (.region [] [] [0, 1, 2] false [
     (none, .asg 6 (.c (.int .i64 0)) .copy)])
   (.seq
    (.region [(13, 2, false), (7, 0, false)] [] [2, 6] false [
      (none, .mv 7 (.v 0)),
      (none, .mv 8 (.v 1)),
      (none, .bin 9 .sub (.v 8) (.c (.int .i64 1))),
      (none, .mv 10 (.v 1)),
      (none, .mv 11 (.v 1)),
      (none, .bin 12 .add (.v 11) (.c (.int .i64 1))),
      (none, .mv 13 (.v 2)),
      (none, .call (some 14) 848 false [((.v 7), false), ((.v 9), false), ((.v 10), false), ((.v 12), false), ((.v 13), true)]),
      (none, .asg 6 (.v 14) .copy)])
    (.ret [2, 6])))⟩
def F839 : PFunc :=
 ⟨[false, false, false], [.tmp 6, .tmp 7],
  (.seq
   (.region [] [] [0, 1, 2] false [
     (none, .asg 6 (.c (.int .i64 0)) .copy),
     (none, .asg 7 (.c (.int .i64 0)) .copy)])
   (.seq
    (.region [] [] [0, 1, 8] false [
      (none, .mv 13 (.v 2)),
      (none, .mv 14 (.v 1)),
      (none, .bin 15 .sub (.v 13) (.v 14)),
      (none, .asg 8 (.v 15) .copy)])
    (.seq
     (.region [] [] [0, 1, 8, 9] false [
       (none, .new 9 (.int .i64 0))])
     (.seq
      (.region [] [] [0, 1, 8, 9, 10] false [
        (none, .mv 16 (.v 1)),
        (none, .mv 17 (.v 8)),
        (none, .bin 18 .quo (.v 17) (.c (.int .i64 4))),
        (none, .bin 19 .mul (.v 18) (.c (.int .i64 1))),
        (none, .bin 20 .add (.v 16) (.v 19)),
        (none, .asg 10 (.v 20) .copy)])
      (.seq
       (.region [] [] [0, 1, 8, 9, 10, 11] false [
         (none, .mv 21 (.v 1)),
         (none, .mv 22 (.v 8)),
         (none, .bin 23 .quo (.v 22) (.c (.int .i64 4))),
         (none, .bin 24 .mul (.v 23) (.c (.int .i64 2))),
         (none, .bin 25 .add (.v 21) (.v 24)),
         (none, .asg 11 (.v 25) .copy)])
       (.seq
        (.region [] [] [0, 8, 9, 10, 11, 12] false [
          (none, .mv 26 (.v 1)),
          (none, .mv 27 (.v 8)),
          (none, .bin 28 .quo (.v 27) (.c (.int .i64 4))),
          (none, .bin 29 .mul (.v 28) (.c (.int .i64 3))),
          (none, .bin 30 .add (.v 26) (.v 29)),
          (none, .asg 12 (.v 30) .copy)])
        (.seq
         (.seq
          (.region [] [] [0, 8, 9, 10, 11, 12, 32] false [
            (none, .mv 31 (.v 8)),
            (none, .bin 32 .geq (.v 31) (.c (.int .i64 8)))])
          (.cond (.v 32)
           (.seq
            (.seq
             (.region [] [] [0, 9, 10, 11, 12, 34] false [
               (none, .mv 33 (.v 8)),
               (none, .bin 34 .geq (.v 33) (.c (.int .i64 50)))])
             (.cond (.v 34)
              (.seq
               (.region [(35, 0, false)] [] [0, 9, 10, 11, 12] false [
                 (none, .mv 35 (.v 0)),
                 (none, .mv 36 (.v 10)),
                 (none, .call (some 37) 846 false [((.v 35), false), ((.v 36), false), ((.v 9), true)]),
                 (none, .asg 10 (.v 37) .copy)])
               (.seq
                (.region [(38, 0, false)] [] [0, 9, 10, 11, 12] false [
                  (none, .mv 38 (.v 0)),
                  (none, .mv 39 (.v 11)),
                  (none, .call (some 40) 846 false [((.v 38), false), ((.v 39), false), ((.v 9), true)]),
                  (none, .asg 11 (.v 40) .copy)])
                (.region [(41, 0, false)] [] [0, 9, 10, 11, 12] false [
                  (none, .mv 41 (.v 0)),
                  (none, .mv 42 (.v 12)),
                  (none, .call (some 43) 846 false [((.v 41), false), ((.v 42), false), ((.v 9), true)]),
                  (none, .asg 12 (.v 43) .copy)])))
              (.skip [0, 9, 10, 11, 12])))
            (.region [(44, 0, false)] [] [9, 11] false [
              (none, .mv 44 (.v 0)),
              (none, .mv 45 (.v 10)),
              (none, .mv 46 (.v 11)),
              (none, .mv 47 (.v 12)),
              (none, .call (some 48) 848 false [((.v 44), false), ((.v 45), false), ((.v 46), false), ((.v 47), false), ((.v 9), true)]),
              (none, .asg 11 (.v 48) .copy)]))
           (.skip [9, 11])))
         (.seq
          (.region [] [] [11, 49] false [
            (none, .load 49 false 1 (.v 9) none)])
          (.block 0
           (.seq
            (.region [] [] [11, 49, 51] false [
              (none, .bin 52 .eql (.v 49) (.c (.int .i64 0))),
              (none, .asg 51 (.v 52) .copy)])
            (.cond (.v 51)
             (.seq
              (.region [] [] [6, 7] false [
                (none, .mv 53 (.v 11)),
                (none, .asg 6 (.v 53) .copy),
                (none, .asg 7 (.c (.int .i64 1)) .copy)])
              (.ret [6, 7]))
             (.seq
              (.region [] [] [11, 54] false [
                (none, .bin 55 .eql (.v 49) (.c (.int .i64 12))),
                (none, .asg 54 (.v 55) .copy)])
              (.cond (.v 54)
               (.seq
                (.region [] [] [6, 7] false [
                  (none, .mv 56 (.v 11)),
                  (none, .asg 6 (.v 56) .copy),
                  (none, .asg 7 (.c (.int .i64 2)) .copy)])
                (.ret [6, 7]))
               (.seq
                (.region [] [] [6, 7] false [
                  (none, .mv 50 (.v 11)),
                  (none, .asg 6 (.v 50) .copy),
                  (none, .asg 7 (.c (.int .i64 0)) .copy)])
                (.ret [6, 7])))))))))))))))⟩
def F864 : PFunc :=
 ⟨[true, false, false, false], [],
  (.seq
   (.region [] [] [0, 2, 3, 8] false [
     (none, .mv 10 (.v 1)),
     (none, .asg 8 (.v 10) .copy)])
   (.block 0
    (.loop
     (.block 1
      (.seq
       (.region [] [] [0, 2, 3, 8, 9] false [
         (none, .mv 11 (.v 8)),
         (none, .bin 12 .mul (.c (.int .i64 2)) (.v 11)),
         (none, .bin 13 .add (.v 12) (.c (.int .i64 1))),
         (none, .asg 9 (.v 13) .copy)])
       (.seq
        (.seq
         (.region [] [] [0, 2, 3, 8, 9, 16] false [
           (none, .mv 14 (.v 9)),
           (none, .mv 15 (.v 2)),
           (none, .bin 16 .geq (.v 14) (.v 15))])
         (.cond (.v 16)
          (.exit 0 [0])
          (.skip [0, 2, 3, 8, 9])))
        (.seq
         (.seq
          (.region [(33, 0, false), (28, 0, false), (26, 0, false), (22, 0, false)] [] [0, 2, 3, 8, 9, 36] true [
            (none, .mv 17 (.v 9)),
            (none, .bin 18 .add (.v 17) (.c (.int .i64 1))),
            (none, .mv 19 (.v 2)),
            (none, .bin 20 .lss (.v 18) (.v 19)),
            (none, .mv 21 (.v 20)),
            (some (21, true), .mvr 22 0),
            (some (21, true), .mv 23 (.v 3)),
            (some (21, true), .mv 24 (.v 9)),
            (some (21, true), .bin 25 .add (.v 23) (.v 24)),
            (some (21, true), .iadr 26 1 (.v 22) (.v 25)),
            (some (21, true), .load 27 false 1 (.v 26) none),
            (some (21, true), .mvr 28 0),
            (some (21, true), .mv 29 (.v 3)),
            (some (21, true), .mv 30 (.v 9)),
            (some (21, true), .bin 31 .add (.v 29) (.v 30)),
            (some (21, true), .bin 32 .add (.v 31) (.c (.int .i64 1))),
            (some (21, true), .iadr 33 1 (.v 28) (.v 32)),
            (some (21, true), .load 34 false 1 (.v 33) none),
            (some (21, true), .call (some 35) 28 false [((.v 27), false), ((.v 34), false)]),
            (none, .pick 36 (.v 21) (.v 35) (.c (.bool false)))])
          (.cond (.v 36)
           (.region [] [] [0, 2, 3, 8, 9] false [
             (none, .mv 37 (.v 9)),
             (none, .bin 38 .add (.v 37) (.c (.int .i64 1))),
             (none, .asg 9 (.v 38) .copy)])
           (.skip [0, 2, 3, 8, 9])))
         (.seq
          (.seq
           (.region [(49, 0, false), (45, 0, false), (43, 0, false), (39, 0, false)] [] [0, 2, 3, 8, 9, 52] true [
             (none, .mvr 39 0),
             (none, .mv 40 (.v 3)),
             (none, .mv 41 (.v 8)),
             (none, .bin 42 .add (.v 40) (.v 41)),
             (none, .iadr 43 1 (.v 39) (.v 42)),
             (none, .load 44 false 1 (.v 43) none),
             (none, .mvr 45 0),
             (none, .mv 46 (.v 3)),
             (none, .mv 47 (.v 9)),
             (none, .bin 48 .add (.v 46) (.v 47)),
             (none, .iadr 49 1 (.v 45) (.v 48)),
             (none, .load 50 false 1 (.v 49) none),
             (none, .call (some 51) 28 false [((.v 44), false), ((.v 50), false)]),
             (none, .un 52 .not (.v 51))])
           (.cond (.v 52)
            (.ret [0])
            (.skip [0, 2, 3, 8, 9])))
          (.seq
           (.region [(74, 0, false), (73, 0, false), (71, 0, false), (67, 0, false), (65, 0, false), (61, 0, false), (57, 0, false), (53, 0, false)] [] [0, 2, 3, 9] true [
             (none, .mvr 53 0),
             (none, .mv 54 (.v 3)),
             (none, .mv 55 (.v 8)),
             (none, .bin 56 .add (.v 54) (.v 55)),
             (none, .mvr 57 0),
             (none, .mv 58 (.v 3)),
             (none, .mv 59 (.v 9)),
             (none, .bin 60 .add (.v 58) (.v 59)),
             (none, .mvr 61 0),
             (none, .mv 62 (.v 3)),
             (none, .mv 63 (.v 9)),
             (none, .bin 64 .add (.v 62) (.v 63)),
             (none, .iadr 65 1 (.v 61) (.v 64)),
             (none, .load 66 false 1 (.v 65) none),
             (none, .mvr 67 0),
             (none, .mv 68 (.v 3)),
             (none, .mv 69 (.v 8)),
             (none, .bin 70 .add (.v 68) (.v 69)),
             (none, .iadr 71 1 (.v 67) (.v 70)),
             (none, .load 72 false 1 (.v 71) none),
             (none, .iadr 73 1 (.v 53) (.v 56)),
             (none, .store 1 (.v 73) (.v 66) .copy),
             (none, .iadr 74 1 (.v 57) (.v 60)),
             (none, .store 1 (.v 74) (.v 72) .copy)])
           (.region [] [] [0, 2, 3, 8] false [
             (none, .mv 75 (.v 9)),
             (none, .asg 8 (.v 75) .copy)]))))))))))⟩
def F841 : PFunc :=
 ⟨[true, false, false], [],
  (.seq
   (.region [] [] [0, 1, 2, 6] false [
     (none, .mv 11 (.v 1)),
     (none, .asg 6 (.v 11) .copy)])
   (.seq
    (.region [] [] [0, 1, 2, 6, 7] false [
      (none, .asg 7 (.c (.int .i64 0)) .copy)])
    (.seq
     (.region [] [] [0, 6, 7, 8] false [
       (none, .mv 12 (.v 2)),
       (none, .mv 13 (.v 1)),
       (none, .bin 14 .sub (.v 12) (.v 13)),
       (none, .asg 8 (.v 14) .copy)])
     (.seq
      (.seq
       (.region [] [] [0, 6, 7, 8, 9] false [
         (none, .mv 15 (.v 8)),
         (none, .bin 16 .sub (.v 15) (.c (.int .i64 1))),
         (none, .bin 17 .quo (.v 16) (.c (.int .i64 2))),
         (none, .asg 9 (.v 17) .copy)])
       (.block 0
        (.loop
         (.seq
          (.seq
           (.region [] [] [0, 6, 7, 8, 9, 19] false [
             (none, .mv 18 (.v 9)),
             (none, .bin 19 .geq (.v 18) (.c (.int .i64 0)))])
           (.cond (.v 19)
            (.skip [0, 6, 7, 8, 9])
            (.exit 0 [0, 6, 7, 8])))
          (.seq
           (.block 1
            (.region [(22, 0, false)] [] [0, 6, 7, 8, 9] false [
              (none, .mv 22 (.v 0)),
              (none, .mv 23 (.v 9)),
              (none, .mv 24 (.v 8)),
              (none, .mv 25 (.v 6)),
              (none, .call (some 26) 864 false [((.v 22), true), ((.v 23), false), ((.v 24), false), ((.v 25), false)])]))
           (.region [] [] [0, 6, 7, 8, 9] false [
             (none, .mv 20 (.v 9)),
             (none, .bin 21 .sub (.v 20) (.c (.int .i64 1))),
             (none, .asg 9 (.v 21) .copy)]))))))
      (.seq
       (.region [] [] [0, 6, 7, 10] false [
         (none, .mv 27 (.v 8)),
         (none, .bin 28 .sub (.v 27) (.c (.int .i64 1))),
         (none, .asg 10 (.v 28) .copy)])
       (.block 2
        (.loop
         (.seq
          (.seq
           (.region [] [] [0, 6, 7, 10, 30] false [
             (none, .mv 29 (.v 10)),
             (none, .bin 30 .geq (.v 29) (.c (.int .i64 0)))])
           (.cond (.v 30)
            (.skip [0, 6, 7, 10])
            (.exit 2 [0])))
          (.seq
           (.block 3
            (.seq
             (.region [(50, 0, false), (49, 0, false), (47, 0, false), (45, 0, false), (43, 0, false), (39, 0, false), (35, 0, false), (33, 0, false)] [] [0, 6, 7, 10] true [
               (none, .mvr 33 0),
               (none, .mv 34 (.v 6)),
               (none, .mvr 35 0),
               (none, .mv 36 (.v 6)),
               (none, .mv 37 (.v 10)),
               (none, .bin 38 .add (.v 36) (.v 37)),
               (none, .mvr 39 0),
               (none, .mv 40 (.v 6)),
               (none, .mv 41 (.v 10)),
               (none, .bin 42 .add (.v 40) (.v 41)),
               (none, .iadr 43 1 (.v 39) (.v 42)),
               (none, .load 44 false 1 (.v 43) none),
               (none, .mvr 45 0),
               (none, .mv 46 (.v 6)),
               (none, .iadr 47 1 (.v 45) (.v 46)),
               (none, .load 48 false 1 (.v 47) none),
               (none, .iadr 49 1 (.v 33) (.v 34)),
               (none, .store 1 (.v 49) (.v 44) .copy),
               (none, .iadr 50 1 (.v 35) (.v 38)),
               (none, .store 1 (.v 50) (.v 48) .copy)])
             (.region [(51, 0, false)] [] [0, 6, 7, 10] false [
               (none, .mv 51 (.v 0)),
               (none, .mv 52 (.v 7)),
               (none, .mv 53 (.v 10)),
               (none, .mv 54 (.v 6)),
               (none, .call (some 55) 864 false [((.v 51), true), ((.v 52), false), ((.v 53), false), ((.v 54), false)])])))
           (.region [] [] [0, 6, 7, 10] false [
             (none, .mv 31 (.v 10)),
             (none, .bin 32 .sub (.v 31) (.c (.int .i64 1))),
             (none, .asg 10 (.v 32) .copy)]))))))))))⟩
def F844 : PFunc :=
 ⟨[true, false, false], [],
  (.seq
   (.region [] [] [0, 1, 2, 6] false [
     (none, .mv 8 (.v 1)),
     (none, .bin 9 .add (.v 8) (.c (.int .i64 1))),
     (none, .asg 6 (.v 9) .copy)])
   (.block 0
    (.loop
     (.seq
      (.seq
       (.region [] [] [0, 1, 2, 6, 12] false [
         (none, .mv 10 (.v 6)),
         (none, .mv 11 (.v 2)),
         (none, .bin 12 .lss (.v 10) (.v 11))])
       (.cond (.v 12)
        (.skip [0, 1, 2, 6])
        (.exit 0 [0])))
      (.seq
       (.block 1
        (.seq
         (.region [] [] [0, 1, 2, 6, 7] false [
           (none, .mv 15 (.v 6)),
           (none, .asg 7 (.v 15) .copy)])
         (.block 2
          (.loop
           (.seq
            (.seq
             (.region [(27, 0, false), (24, 0, false), (22, 0, false), (20, 0, false)] [] [0, 1, 2, 6, 7, 30] true [
               (none, .mv 16 (.v 7)),
               (none, .mv 17 (.v 1)),
               (none, .bin 18 .gtr (.v 16) (.v 17)),
               (none, .mv 19 (.v 18)),
               (some (19, true), .mvr 20 0),
               (some (19, true), .mv 21 (.v 7)),
               (some (19, true), .iadr 22 1 (.v 20) (.v 21)),
               (some (19, true), .load 23 false 1 (.v 22) none),
               (some (19, true), .mvr 24 0),
               (some (19, true), .mv 25 (.v 7)),
               (some (19, true), .bin 26 .sub (.v 25) (.c (.int .i64 1))),
               (some (19, true), .iadr 27 1 (.v 24) (.v 26)),
               (some (19, true), .load 28 false 1 (.v 27) none),
               (some (19, true), .call (some 29) 28 false [((.v 23), false), ((.v 28), false)]),
               (none, .pick 30 (.v 19) (.v 29) (.c (.bool false)))])
             (.cond (.v 30)
              (.skip [0, 1, 2, 6, 7])
              (.exit 2 [0, 1, 2, 6])))
            (.seq
             (.block 3
              (.region [(48, 0, false), (47, 0, false), (45, 0, false), (43, 0, false), (41, 0, false), (38, 0, false), (35, 0, false), (33, 0, false)] [] [0, 1, 2, 6, 7] true [
                (none, .mvr 33 0),
                (none, .mv 34 (.v 7)),
                (none, .mvr 35 0),
                (none, .mv 36 (.v 7)),
                (none, .bin 37 .sub (.v 36) (.c (.int .i64 1))),
                (none, .mvr 38 0),
                (none, .mv 39 (.v 7)),
                (none, .bin 40 .sub (.v 39) (.c (.int .i64 1))),
                (none, .iadr 41 1 (.v 38) (.v 40)),
                (none, .load 42 false 1 (.v 41) none),
                (none, .mvr 43 0),
                (none, .mv 44 (.v 7)),
                (none, .iadr 45 1 (.v 43) (.v 44)),
                (none, .load 46 false 1 (.v 45) none),
                (none, .iadr 47 1 (.v 33) (.v 34)),
                (none, .store 1 (.v 47) (.v 42) .copy),
                (none, .iadr 48 1 (.v 35) (.v 37)),
                (none, .store 1 (.v 48) (.v 46) .copy)]))
             (.region [] [] [0, 1, 2, 6, 7] false [
               (none, .mv 31 (.v 7)),
               (none, .bin 32 .sub (.v 31) (.c (.int .i64 1))),
               (none, .asg 7 (.v 32) .copy)])))))))
       (.region [] [] [0, 1, 2, 6] false [
         (none, .mv 13 (.v 6)),
         (none, .bin 14 .add (.v 13) (.c (.int .i64 1))),
         (none, .asg 6 (.v 14) .copy)]))))))⟩
def F853 : PFunc :=
 ⟨[true, false, false], [.tmp 6],
  (.seq
   (.region [] [] [0, 1, 2] false [
     (none, .asg 6 (.c (.bool false)) .copy)])
   (.seq
    (.region [] [] [0, 1, 2, 7] false [
      (none, .mv 11 (.v 1)),
      (none, .bin 12 .add (.v 11) (.c (.int .i64 1))),
      (none, .asg 7 (.v 12) .copy)])
    (.seq
     (.seq
      (.region [] [] [0, 1, 2, 7, 8] false [
        (none, .asg 8 (.c (.int .i64 0)) .copy)])
      (.block 0
       (.loop
        (.seq
         (.seq
          (.region [] [] [0, 1, 2, 7, 8, 14] false [
            (none, .mv 13 (.v 8)),
            (none, .bin 14 .lss (.v 13) (.c (.int .i64 5)))])
          (.cond (.v 14)
           (.skip [0, 1, 2, 7, 8])
           (.exit 0 [0])))
         (.seq
          (.block 1
           (.seq
            (.block 2
             (.loop
              (.seq
               (.seq
                (.region [(28, 0, false), (25, 0, false), (23, 0, false), (21, 0, false)] [] [0, 1, 2, 7, 8, 32] true [
                  (none, .mv 17 (.v 7)),
                  (none, .mv 18 (.v 2)),
                  (none, .bin 19 .lss (.v 17) (.v 18)),
                  (none, .mv 20 (.v 19)),
                  (some (20, true), .mvr 21 0),
                  (some (20, true), .mv 22 (.v 7)),
                  (some (20, true), .iadr 23 1 (.v 21) (.v 22)),
                  (some (20, true), .load 24 false 1 (.v 23) none),
                  (some (20, true), .mvr 25 0),
                  (some (20, true), .mv 26 (.v 7)),
                  (some (20, true), .bin 27 .sub (.v 26) (.c (.int .i64 1))),
                  (some (20, true), .iadr 28 1 (.v 25) (.v 27)),
                  (some (20, true), .load 29 false 1 (.v 28) none),
                  (some (20, true), .call (some 30) 28 false [((.v 24), false), ((.v 29), false)]),
                  (some (20, true), .un 31 .not (.v 30)),
                  (none, .pick 32 (.v 20) (.v 31) (.c (.bool false)))])
                (.cond (.v 32)
                 (.skip [0, 1, 2, 7, 8])
                 (.exit 2 [0, 1, 2, 7, 8])))
               (.block 3
                (.region [] [] [0, 1, 2, 7, 8] false [
                  (none, .mv 33 (.v 7)),
                  (none, .bin 34 .add (.v 33) (.c (.int .i64 1))),
                  (none, .asg 7 (.v 34) .copy)])))))
            (.seq
             (.seq
              (.region [] [] [0, 1, 2, 7, 8, 37] false [
                (none, .mv 35 (.v 7)),
                (none, .mv 36 (.v 2)),
                (none, .bin 37 .eql (.v 35) (.v 36))])
              (.cond (.v 37)
               (.seq
                (.region [] [] [0, 6] false [
                  (none, .asg 6 (.c (.bool true)) .copy)])
                (.ret [0, 6]))
               (.skip [0, 1, 2, 7, 8])))
             (.seq
              (.seq
               (.region [] [] [0, 1, 2, 7, 8, 41] false [
                 (none, .mv 38 (.v 2)),
                 (none, .mv 39 (.v 1)),
                 (none, .bin 40 .sub (.v 38) (.v 39)),
                 (none, .bin 41 .lss (.v 40) (.c (.int .i64 50)))])
               (.cond (.v 41)
                (.seq
                 (.region [] [] [0, 6] false [
                   (none, .asg 6 (.c (.bool false)) .copy)])
                 (.ret [0, 6]))
                (.skip [0, 1, 2, 7, 8])))
              (.seq
               (.region [(57, 0, false), (56, 0, false), (54, 0, false), (52, 0, false), (50, 0, false), (47, 0, false), (44, 0, false), (42, 0, false)] [] [0, 1, 2, 7, 8] true [
                 (none, .mvr 42 0),
                 (none, .mv 43 (.v 7)),
                 (none, .mvr 44 0),
                 (none, .mv 45 (.v 7)),
                 (none, .bin 46 .sub (.v 45) (.c (.int .i64 1))),
                 (none, .mvr 47 0),
                 (none, .mv 48 (.v 7)),
                 (none, .bin 49 .sub (.v 48) (.c (.int .i64 1))),
                 (none, .iadr 50 1 (.v 47) (.v 49)),
                 (none, .load 51 false 1 (.v 50) none),
                 (none, .mvr 52 0),
                 (none, .mv 53 (.v 7)),
                 (none, .iadr 54 1 (.v 52) (.v 53)),
                 (none, .load 55 false 1 (.v 54) none),
                 (none, .iadr 56 1 (.v 42) (.v 43)),
                 (none, .store 1 (.v 56) (.v 51) .copy),
                 (none, .iadr 57 1 (.v 44) (.v 46)),
                 (none, .store 1 (.v 57) (.v 55) .copy)])
               (.seq
                (.seq
                 (.region [] [] [0, 1, 2, 7, 8, 61] false [
                   (none, .mv 58 (.v 7)),
                   (none, .mv 59 (.v 1)),
                   (none, .bin 60 .sub (.v 58) (.v 59)),
                   (none, .bin 61 .geq (.v 60) (.c (.int .i64 2)))])
                 (.cond (.v 61)
                  (.seq
                   (.region [] [] [0, 1, 2, 7, 8, 9] false [
                     (none, .mv 62 (.v 7)),
                     (none, .bin 63 .sub (.v 62) (.c (.int .i64 1))),
                     (none, .asg 9 (.v 63) .copy)])
                   (.block 4
                    (.loop
                     (.seq
                      (.seq
                       (.region [] [] [0, 1, 2, 7, 8, 9, 65] false [
                         (none, .mv 64 (.v 9)),
                         (none, .bin 65 .geq (.v 64) (.c (.int .i64 1)))])
                       (.cond (.v 65)
                        (.skip [0, 1, 2, 7, 8, 9])
                        (.exit 4 [0, 1, 2, 7, 8])))
                      (.seq
                       (.block 5
                        (.seq
                         (.seq
                          (.region [(75, 0, false), (72, 0, false), (70, 0, false), (68, 0, false)] [] [0, 1, 2, 7, 8, 9, 78] true [
                            (none, .mvr 68 0),
                            (none, .mv 69 (.v 9)),
                            (none, .iadr 70 1 (.v 68) (.v 69)),
                            (none, .load 71 false 1 (.v 70) none),
                            (none, .mvr 72 0),
                            (none, .mv 73 (.v 9)),
                            (none, .bin 74 .sub (.v 73) (.c (.int .i64 1))),
                            (none, .iadr 75 1 (.v 72) (.v 74)),
                            (none, .load 76 false 1 (.v 75) none),
                            (none, .call (some 77) 28 false [((.v 71), false), ((.v 76), false)]),
                            (none, .un 78 .not (.v 77))])
                          (.cond (.v 78)
                           (.exit 4 [0, 1, 2, 7, 8])
                           (.skip [0, 1, 2, 7, 8, 9])))
                         (.region [(94, 0, false), (93, 0, false), (91, 0, false), (89, 0, false), (87, 0, false), (84, 0, false), (81, 0, false), (79, 0, false)] [] [0, 1, 2, 7, 8, 9] true [
                           (none, .mvr 79 0),
                           (none, .mv 80 (.v 9)),
                           (none, .mvr 81 0),
                           (none, .mv 82 (.v 9)),
                           (none, .bin 83 .sub (.v 82) (.c (.int .i64 1))),
                           (none, .mvr 84 0),
                           (none, .mv 85 (.v 9)),
                           (none, .bin 86 .sub (.v 85) (.c (.int .i64 1))),
                           (none, .iadr 87 1 (.v 84) (.v 86)),
                           (none, .load 88 false 1 (.v 87) none),
                           (none, .mvr 89 0),
                           (none, .mv 90 (.v 9)),
                           (none, .iadr 91 1 (.v 89) (.v 90)),
                           (none, .load 92 false 1 (.v 91) none),
                           (none, .iadr 93 1 (.v 79) (.v 80)),
                           (none, .store 1 (.v 93) (.v 88) .copy),
                           (none, .iadr 94 1 (.v 81) (.v 83)),
                           (none, .store 1 (.v 94) (.v 92) .copy)])))
                       (.region [] [] [0, 1, 2, 7, 8, 9] false [
                         (none, .mv 66 (.v 9)),
                         (none, .bin 67 .sub (.v 66) (.c (.int .i64 1))),
                         (none, .asg 9 (.v 67) .copy)]))))))
                  (.skip [0, 1, 2, 7, 8])))
                (.seq
                 (.region [] [] [0, 1, 2, 7, 8, 98] false [
                   (none, .mv 95 (.v 2)),
                   (none, .mv 96 (.v 7)),
                   (none, .bin 97 .sub (.v 95) (.v 96)),
                   (none, .bin 98 .geq (.v 97) (.c (.int .i64 2)))])
                 (.cond (.v 98)
                  (.seq
                   (.region [] [] [0, 1, 2, 7, 8, 10] false [
                     (none, .mv 99 (.v 7)),
                     (none, .bin 100 .add (.v 99) (.c (.int .i64 1))),
                     (none, .asg 10 (.v 100) .copy)])
                   (.block 6
                    (.loop
                     (.seq
                      (.seq
                       (.region [] [] [0, 1, 2, 7, 8, 10, 103] false [
                         (none, .mv 101 (.v 10)),
                         (none, .mv 102 (.v 2)),
                         (none, .bin 103 .lss (.v 101) (.v 102))])
                       (.cond (.v 103)
                        (.skip [0, 1, 2, 7, 8, 10])
                        (.exit 6 [0, 1, 2, 7, 8])))
                      (.seq
                       (.block 7
                        (.seq
                         (.seq
                          (.region [(113, 0, false), (110, 0, false), (108, 0, false), (106, 0, false)] [] [0, 1, 2, 7, 8, 10, 116] true [
                            (none, .mvr 106 0),
                            (none, .mv 107 (.v 10)),
                            (none, .iadr 108 1 (.v 106) (.v 107)),
                            (none, .load 109 false 1 (.v 108) none),
                            (none, .mvr 110 0),
                            (none, .mv 111 (.v 10)),
                            (none, .bin 112 .sub (.v 111) (.c (.int .i64 1))),
                            (none, .iadr 113 1 (.v 110) (.v 112)),
                            (none, .load 114 false 1 (.v 113) none),
                            (none, .call (some 115) 28 false [((.v 109), false), ((.v 114), false)]),
                            (none, .un 116 .not (.v 115))])
                          (.cond (.v 116)
                           (.exit 6 [0, 1, 2, 7, 8])
                           (.skip [0, 1, 2, 7, 8, 10])))
                         (.region [(132, 0, false), (131, 0, false), (129, 0, false), (127, 0, false), (125, 0, false), (122, 0, false), (119, 0, false), (117, 0, false)] [] [0, 1, 2, 7, 8, 10] true [
                           (none, .mvr 117 0),
                           (none, .mv 118 (.v 10)),
                           (none, .mvr 119 0),
                           (none, .mv 120 (.v 10)),
                           (none, .bin 121 .sub (.v 120) (.c (.int .i64 1))),
                           (none, .mvr 122 0),
                           (none, .mv 123 (.v 10)),
                           (none, .bin 124 .sub (.v 123) (.c (.int .i64 1))),
                           (none, .iadr 125 1 (.v 122) (.v 124)),
                           (none, .load 126 false 1 (.v 125) none),
                           (none, .mvr 127 0),
                           (none, .mv 128 (.v 10)),
                           (none, .iadr 129 1 (.v 127) (.v 128)),
                           (none, .load 130 false 1 (.v 129) none),
                           (none, .iadr 131 1 (.v 117) (.v 118)),
                           (none, .store 1 (.v 131) (.v 126) .copy),
                           (none, .iadr 132 1 (.v 119) (.v 121)),
                           (none, .store 1 (.v 132) (.v 130) .copy)])))
                       (.region [] [] [0, 1, 2, 7, 8, 10] false [
                         (none, .mv 104 (.v 10)),
                         (none, .bin 105 .add (.v 104) (.c (.int .i64 1))),
                         (none, .asg 10 (.v 105) .copy)]))))))
                  (.skip [0, 1, 2, 7, 8])))))))))
          (.region [] [] [0, 1, 2, 7, 8] false [
            (none, .mv 15 (.v 8)),
            (none, .bin 16 .add (.v 15) (.c (.int .i64 1))),
            (none, .asg 8 (.v 16) .copy)]))))))
     (.seq
      (.region [] [] [0, 6] false [
        (none, .asg 6 (.c (.bool false)) .copy)])
      (.ret [0, 6])))))⟩
def F855 : PFunc :=
 ⟨[true, false, false, false], [.tmp 8],
  (.seq
   (.region [] [] [0, 1, 2, 3] false [
     (none, .asg 8 (.c (.int .i64 0)) .copy)])
   (.seq
    (.region [(24, 0, false), (23, 0, false), (21, 0, false), (19, 0, false), (17, 0, false), (15, 0, false), (13, 0, false), (11, 0, false)] [] [0, 1, 2] true [
      (none, .mvr 11 0),
      (none, .mv 12 (.v 1)),
      (none, .mvr 13 0),
      (none, .mv 14 (.v 3)),
      (none, .mvr 15 0),
      (none, .mv 16 (.v 3)),
      (none, .iadr 17 1 (.v 15) (.v 16)),
      (none, .load 18 false 1 (.v 17) none),
      (none, .mvr 19 0),
      (none, .mv 20 (.v 1)),
      (none, .iadr 21 1 (.v 19) (.v 20)),
      (none, .load 22 false 1 (.v 21) none),
      (none, .iadr 23 1 (.v 11) (.v 12)),
      (none, .store 1 (.v 23) (.v 18) .copy),
      (none, .iadr 24 1 (.v 13) (.v 14)),
      (none, .store 1 (.v 24) (.v 22) .copy)])
    (.seq
     (.region [] [] [0, 1, 9, 10] false [
       (none, .mv 25 (.v 1)),
       (none, .bin 26 .add (.v 25) (.c (.int .i64 1))),
       (none, .mv 27 (.v 2)),
       (none, .bin 28 .sub (.v 27) (.c (.int .i64 1))),
       (none, .asg 9 (.v 26) .copy),
       (none, .asg 10 (.v 28) .copy)])
     (.seq
      (.block 0
       (.loop
        (.block 1
         (.seq
          (.block 2
           (.loop
            (.seq
             (.seq
              (.region [(39, 0, false), (37, 0, false), (35, 0, false), (33, 0, false)] [] [0, 1, 9, 10, 43] true [
                (none, .mv 29 (.v 9)),
                (none, .mv 30 (.v 10)),
                (none, .bin 31 .leq (.v 29) (.v 30)),
                (none, .mv 32 (.v 31)),
                (some (32, true), .mvr 33 0),
                (some (32, true), .mv 34 (.v 1)),
                (some (32, true), .iadr 35 1 (.v 33) (.v 34)),
                (some (32, true), .load 36 false 1 (.v 35) none),
                (some (32, true), .mvr 37 0),
                (some (32, true), .mv 38 (.v 9)),
                (some (32, true), .iadr 39 1 (.v 37) (.v 38)),
                (some (32, true), .load 40 false 1 (.v 39) none),
                (some (32, true), .call (some 41) 28 false [((.v 36), false), ((.v 40), false)]),
                (some (32, true), .un 42 .not (.v 41)),
                (none, .pick 43 (.v 32) (.v 42) (.c (.bool false)))])
              (.cond (.v 43)
               (.skip [0, 1, 9, 10])
               (.exit 2 [0, 1, 9, 10])))
             (.block 3
              (.region [] [] [0, 1, 9, 10] false [
                (none, .mv 44 (.v 9)),
                (none, .bin 45 .add (.v 44) (.c (.int .i64 1))),
                (none, .asg 9 (.v 45) .copy)])))))
          (.seq
           (.block 4
            (.loop
             (.seq
              (.seq
               (.region [(56, 0, false), (54, 0, false), (52, 0, false), (50, 0, false)] [] [0, 1, 9, 10, 59] true [
                 (none, .mv 46 (.v 9)),
                 (none, .mv 47 (.v 10)),
                 (none, .bin 48 .leq (.v 46) (.v 47)),
                 (none, .mv 49 (.v 48)),
                 (some (49, true), .mvr 50 0),
                 (some (49, true), .mv 51 (.v 1)),
                 (some (49, true), .iadr 52 1 (.v 50) (.v 51)),
                 (some (49, true), .load 53 false 1 (.v 52) none),
                 (some (49, true), .mvr 54 0),
                 (some (49, true), .mv 55 (.v 10)),
                 (some (49, true), .iadr 56 1 (.v 54) (.v 55)),
                 (some (49, true), .load 57 false 1 (.v 56) none),
                 (some (49, true), .call (some 58) 28 false [((.v 53), false), ((.v 57), false)]),
                 (none, .pick 59 (.v 49) (.v 58) (.c (.bool false)))])
               (.cond (.v 59)
                (.skip [0, 1, 9, 10])
                (.exit 4 [0, 1, 9, 10])))
              (.block 5
               (.region [] [] [0, 1, 9, 10] false [
                 (none, .mv 60 (.v 10)),
                 (none, .bin 61 .sub (.v 60) (.c (.int .i64 1))),
                 (none, .asg 10 (.v 61) .copy)])))))
           (.seq
            (.seq
             (.region [] [] [0, 1, 9, 10, 64] false [
               (none, .mv 62 (.v 9)),
               (none, .mv 63 (.v 10)),
               (none, .bin 64 .gtr (.v 62) (.v 63))])
             (.cond (.v 64)
              (.exit 0 [0, 9])
              (.skip [0, 1, 9, 10])))
            (.seq
             (.region [(78, 0, false), (77, 0, false), (75, 0, false), (73, 0, false), (71, 0, false), (69, 0, false), (67, 0, false), (65, 0, false)] [] [0, 1, 9, 10] true [
               (none, .mvr 65 0),
               (none, .mv 66 (.v 9)),
               (none, .mvr 67 0),
               (none, .mv 68 (.v 10)),
               (none, .mvr 69 0),
               (none, .mv 70 (.v 10)),
               (none, .iadr 71 1 (.v 69) (.v 70)),
               (none, .load 72 false 1 (.v 71) none),
               (none, .mvr 73 0),
               (none, .mv 74 (.v 9)),
               (none, .iadr 75 1 (.v 73) (.v 74)),
               (none, .load 76 false 1 (.v 75) none),
               (none, .iadr 77 1 (.v 65) (.v 66)),
               (none, .store 1 (.v 77) (.v 72) .copy),
               (none, .iadr 78 1 (.v 67) (.v 68)),
               (none, .store 1 (.v 78) (.v 76) .copy)])
             (.seq
              (.region [] [] [0, 1, 9, 10] false [
                (none, .mv 79 (.v 9)),
                (none, .bin 80 .add (.v 79) (.c (.int .i64 1))),
                (none, .asg 9 (.v 80) .copy)])
              (.region [] [] [0, 1, 9, 10] false [
                (none, .mv 81 (.v 10)),
                (none, .bin 82 .sub (.v 81) (.c (.int .i64 1))),
                (none, .asg 10 (.v 82) .copy)])))))))))
      (.seq
       (.region [] [] [0, 8] false [
         (none, .mv 83 (.v 9)),
         (none, .asg 8 (.v 83) .copy)])
       (.ret [0, 8]))))))⟩
def F857 : PFunc :=
 ⟨[true, false, false, false], [.tmp 8, .tmp 9],
  (.seq
   (.region [] [] [0, 1, 2, 3] false [
     (none, .asg 8 (.c (.int .i64 0)) .copy),
     (none, .asg 9 (.c (.bool false)) .copy)])
   (.seq
    (.region [(25, 0, false), (24, 0, false), (22, 0, false), (20, 0, false), (18, 0, false), (16, 0, false), (14, 0, false), (12, 0, false)] [] [0, 1, 2] true [
      (none, .mvr 12 0),
      (none, .mv 13 (.v 1)),
      (none, .mvr 14 0),
      (none, .mv 15 (.v 3)),
      (none, .mvr 16 0),
      (none, .mv 17 (.v 3)),
      (none, .iadr 18 1 (.v 16) (.v 17)),
      (none, .load 19 false 1 (.v 18) none),
      (none, .mvr 20 0),
      (none, .mv 21 (.v 1)),
      (none, .iadr 22 1 (.v 20) (.v 21)),
      (none, .load 23 false 1 (.v 22) none),
      (none, .iadr 24 1 (.v 12) (.v 13)),
      (none, .store 1 (.v 24) (.v 19) .copy),
      (none, .iadr 25 1 (.v 14) (.v 15)),
      (none, .store 1 (.v 25) (.v 23) .copy)])
    (.seq
     (.region [] [] [0, 1, 10, 11] false [
       (none, .mv 26 (.v 1)),
       (none, .bin 27 .add (.v 26) (.c (.int .i64 1))),
       (none, .mv 28 (.v 2)),
       (none, .bin 29 .sub (.v 28) (.c (.int .i64 1))),
       (none, .asg 10 (.v 27) .copy),
       (none, .asg 11 (.v 29) .copy)])
     (.seq
      (.block 0
       (.loop
        (.seq
         (.seq
          (.region [(40, 0, false), (38, 0, false), (36, 0, false), (34, 0, false)] [] [0, 1, 10, 11, 43] true [
            (none, .mv 30 (.v 10)),
            (none, .mv 31 (.v 11)),
            (none, .bin 32 .leq (.v 30) (.v 31)),
            (none, .mv 33 (.v 32)),
            (some (33, true), .mvr 34 0),
            (some (33, true), .mv 35 (.v 10)),
            (some (33, true), .iadr 36 1 (.v 34) (.v 35)),
            (some (33, true), .load 37 false 1 (.v 36) none),
            (some (33, true), .mvr 38 0),
            (some (33, true), .mv 39 (.v 1)),
            (some (33, true), .iadr 40 1 (.v 38) (.v 39)),
            (some (33, true), .load 41 false 1 (.v 40) none),
            (some (33, true), .call (some 42) 28 false [((.v 37), false), ((.v 41), false)]),
            (none, .pick 43 (.v 33) (.v 42) (.c (.bool false)))])
          (.cond (.v 43)
           (.skip [0, 1, 10, 11])
           (.exit 0 [0, 1, 10, 11])))
         (.block 1
          (.region [] [] [0, 1, 10, 11] false [
            (none, .mv 44 (.v 10)),
            (none, .bin 45 .add (.v 44) (.c (.int .i64 1))),
            (none, .asg 10 (.v 45) .copy)])))))
      (.seq
       (.block 2
        (.loop
         (.seq
          (.seq
           (.region [(56, 0, false), (54, 0, false), (52, 0, false), (50, 0, false)] [] [0, 1, 10, 11, 60] true [
             (none, .mv 46 (.v 10)),
             (none, .mv 47 (.v 11)),
             (none, .bin 48 .leq (.v 46) (.v 47)),
             (none, .mv 49 (.v 48)),
             (some (49, true), .mvr 50 0),
             (some (49, true), .mv 51 (.v 11)),
             (some (49, true), .iadr 52 1 (.v 50) (.v 51)),
             (some (49, true), .load 53 false 1 (.v 52) none),
             (some (49, true), .mvr 54 0),
             (some (49, true), .mv 55 (.v 1)),
             (some (49, true), .iadr 56 1 (.v 54) (.v 55)),
             (some (49, true), .load 57 false 1 (.v 56) none),
             (some (49, true), .call (some 58) 28 false [((.v 53), false), ((.v 57), false)]),
             (some (49, true), .un 59 .not (.v 58)),
             (none, .pick 60 (.v 49) (.v 59) (.c (.bool false)))])
           (.cond (.v 60)
            (.skip [0, 1, 10, 11])
            (.exit 2 [0, 1, 10, 11])))
          (.block 3
           (.region [] [] [0, 1, 10, 11] false [
             (none, .mv 61 (.v 11)),
             (none, .bin 62 .sub (.v 61) (.c (.int .i64 1))),
             (none, .asg 11 (.v 62) .copy)])))))
       (.seq
        (.seq
         (.region [] [] [0, 1, 10, 11, 65] false [
           (none, .mv 63 (.v 10)),
           (none, .mv 64 (.v 11)),
           (none, .bin 65 .gtr (.v 63) (.v 64))])
         (.cond (.v 65)
          (.seq
           (.region [(79, 0, false), (78, 0, false), (76, 0, false), (74, 0, false), (72, 0, false), (70, 0, false), (68, 0, false), (66, 0, false)] [] [0, 11] true [
             (none, .mvr 66 0),
             (none, .mv 67 (.v 11)),
             (none, .mvr 68 0),
             (none, .mv 69 (.v 1)),
             (none, .mvr 70 0),
             (none, .mv 71 (.v 1)),
             (none, .iadr 72 1 (.v 70) (.v 71)),
             (none, .load 73 false 1 (.v 72) none),
             (none, .mvr 74 0),
             (none, .mv 75 (.v 11)),
             (none, .iadr 76 1 (.v 74) (.v 75)),
             (none, .load 77 false 1 (.v 76) none),
             (none, .iadr 78 1 (.v 66) (.v 67)),
             (none, .store 1 (.v 78) (.v 73) .copy),
             (none, .iadr 79 1 (.v 68) (.v 69)),
             (none, .store 1 (.v 79) (.v 77) .copy)])
           (.seq
            (.region [] [] [0, 8, 9] false [
              (none, .mv 80 (.v 11)),
              (none, .asg 8 (.v 80) .copy),
              (none, .asg 9 (.c (.bool true)) .copy)])
            (.ret [0, 8, 9])))
          (.skip [0, 1, 10, 11])))
        (.seq
         (.region [(94, 0, false), (93, 0, false), (91, 0, false), (89, 0, false), (87, 0, false), (85, 0, false), (83, 0, false), (81, 0, false)] [] [0, 1, 10, 11] true [
           (none, .mvr 81 0),
           (none, .mv 82 (.v 10)),
           (none, .mvr 83 0),
           (none, .mv 84 (.v 11)),
           (none, .mvr 85 0),
           (none, .mv 86 (.v 11)),
           (none, .iadr 87 1 (.v 85) (.v 86)),
           (none, .load 88 false 1 (.v 87) none),
           (none, .mvr 89 0),
           (none, .mv 90 (.v 10)),
           (none, .iadr 91 1 (.v 89) (.v 90)),
           (none, .load 92 false 1 (.v 91) none),
           (none, .iadr 93 1 (.v 81) (.v 82)),
           (none, .store 1 (.v 93) (.v 88) .copy),
           (none, .iadr 94 1 (.v 83) (.v 84)),
           (none, .store 1 (.v 94) (.v 92) .copy)])
         (.seq
          (.region [] [] [0, 1, 10, 11] false [
            (none, .mv 95 (.v 10)),
            (none, .bin 96 .add (.v 95) (.c (.int .i64 1))),
            (none, .asg 10 (.v 96) .copy)])
          (.seq
           (.region [] [] [0, 1, 10, 11] false [
             (none, .mv 97 (.v 11)),
             (none, .bin 98 .sub (.v 97) (.c (.int .i64 1))),
             (none, .asg 11 (.v 98) .copy)])
           (.seq
            (.block 4
             (.loop
              (.block 5
               (.seq
                (.block 6
                 (.loop
                  (.seq
                   (.seq
                    (.region [(109, 0, false), (107, 0, false), (105, 0, false), (103, 0, false)] [] [0, 1, 10, 11, 112] true [
                      (none, .mv 99 (.v 10)),
                      (none, .mv 100 (.v 11)),
                      (none, .bin 101 .leq (.v 99) (.v 100)),
                      (none, .mv 102 (.v 101)),
                      (some (102, true), .mvr 103 0),
                      (some (102, true), .mv 104 (.v 10)),
                      (some (102, true), .iadr 105 1 (.v 103) (.v 104)),
                      (some (102, true), .load 106 false 1 (.v 105) none),
                      (some (102, true), .mvr 107 0),
                      (some (102, true), .mv 108 (.v 1)),
                      (some (102, true), .iadr 109 1 (.v 107) (.v 108)),
                      (some (102, true), .load 110 false 1 (.v 109) none),
                      (some (102, true), .call (some 111) 28 false [((.v 106), false), ((.v 110), false)]),
                      (none, .pick 112 (.v 102) (.v 111) (.c (.bool false)))])
                    (.cond (.v 112)
                     (.skip [0, 1, 10, 11])
                     (.exit 6 [0, 1, 10, 11])))
                   (.block 7
                    (.region [] [] [0, 1, 10, 11] false [
                      (none, .mv 113 (.v 10)),
                      (none, .bin 114 .add (.v 113) (.c (.int .i64 1))),
                      (none, .asg 10 (.v 114) .copy)])))))
                (.seq
                 (.block 8
                  (.loop
                   (.seq
                    (.seq
                     (.region [(125, 0, false), (123, 0, false), (121, 0, false), (119, 0, false)] [] [0, 1, 10, 11, 129] true [
                       (none, .mv 115 (.v 10)),
                       (none, .mv 116 (.v 11)),
                       (none, .bin 117 .leq (.v 115) (.v 116)),
                       (none, .mv 118 (.v 117)),
                       (some (118, true), .mvr 119 0),
                       (some (118, true), .mv 120 (.v 11)),
                       (some (118, true), .iadr 121 1 (.v 119) (.v 120)),
                       (some (118, true), .load 122 false 1 (.v 121) none),
                       (some (118, true), .mvr 123 0),
                       (some (118, true), .mv 124 (.v 1)),
                       (some (118, true), .iadr 125 1 (.v 123) (.v 124)),
                       (some (118, true), .load 126 false 1 (.v 125) none),
                       (some (118, true), .call (some 127) 28 false [((.v 122), false), ((.v 126), false)]),
                       (some (118, true), .un 128 .not (.v 127)),
                       (none, .pick 129 (.v 118) (.v 128) (.c (.bool false)))])
                     (.cond (.v 129)
                      (.skip [0, 1, 10, 11])
                      (.exit 8 [0, 1, 10, 11])))
                    (.block 9
                     (.region [] [] [0, 1, 10, 11] false [
                       (none, .mv 130 (.v 11)),
                       (none, .bin 131 .sub (.v 130) (.c (.int .i64 1))),
                       (none, .asg 11 (.v 131) .copy)])))))
                 (.seq
                  (.seq
                   (.region [] [] [0, 1, 10, 11, 134] false [
                     (none, .mv 132 (.v 10)),
                     (none, .mv 133 (.v 11)),
                     (none, .bin 134 .gtr (.v 132) (.v 133))])
                   (.cond (.v 134)
                    (.exit 4 [0, 1, 11])
                    (.skip [0, 1, 10, 11])))
                  (.seq
                   (.region [(148, 0, false), (147, 0, false), (145, 0, false), (143, 0, false), (141, 0, false), (139, 0, false), (137, 0, false), (135, 0, false)] [] [0, 1, 10, 11] true [
                     (none, .mvr 135 0),
                     (none, .mv 136 (.v 10)),
                     (none, .mvr 137 0),
                     (none, .mv 138 (.v 11)),
                     (none, .mvr 139 0),
                     (none, .mv 140 (.v 11)),
                     (none, .iadr 141 1 (.v 139) (.v 140)),
                     (none, .load 142 false 1 (.v 141) none),
                     (none, .mvr 143 0),
                     (none, .mv 144 (.v 10)),
                     (none, .iadr 145 1 (.v 143) (.v 144)),
                     (none, .load 146 false 1 (.v 145) none),
                     (none, .iadr 147 1 (.v 135) (.v 136)),
                     (none, .store 1 (.v 147) (.v 142) .copy),
                     (none, .iadr 148 1 (.v 137) (.v 138)),
                     (none, .store 1 (.v 148) (.v 146) .copy)])
                   (.seq
                    (.region [] [] [0, 1, 10, 11] false [
                      (none, .mv 149 (.v 10)),
                      (none, .bin 150 .add (.v 149) (.c (.int .i64 1))),
                      (none, .asg 10 (.v 150) .copy)])
                    (.region [] [] [0, 1, 10, 11] false [
                      (none, .mv 151 (.v 11)),
                      (none, .bin 152 .sub (.v 151) (.c (.int .i64 1))),
                      (none, .asg 11 (.v 152) .copy)])))))))))
            (.seq
             (.region [(166, 0, false), (165, 0, false), (163, 0, false), (161, 0, false), (159, 0, false), (157, 0, false), (155, 0, false), (153, 0, false)] [] [0, 11] true [
               (none, .mvr 153 0),
               (none, .mv 154 (.v 11)),
               (none, .mvr 155 0),
               (none, .mv 156 (.v 1)),
               (none, .mvr 157 0),
               (none, .mv 158 (.v 1)),
               (none, .iadr 159 1 (.v 157) (.v 158)),
               (none, .load 160 false 1 (.v 159) none),
               (none, .mvr 161 0),
               (none, .mv 162 (.v 11)),
               (none, .iadr 163 1 (.v 161) (.v 162)),
               (none, .load 164 false 1 (.v 163) none),
               (none, .iadr 165 1 (.v 153) (.v 154)),
               (none, .store 1 (.v 165) (.v 160) .copy),
               (none, .iadr 166 1 (.v 155) (.v 156)),
               (none, .store 1 (.v 166) (.v 164) .copy)])
             (.seq
              (.region [] [] [0, 8, 9] false [
                (none, .mv 167 (.v 11)),
                (none, .asg 8 (.v 167) .copy),
                (none, .asg 9 (.c (.bool false)) .copy)])
              (.ret [0, 8, 9])))))))))))))⟩
def F861 : PFunc :=
 ⟨[true, false, false], [],
  (.seq
   (.region [] [] [0, 2, 6] false [
     (none, .mv 8 (.v 1)),
     (none, .asg 6 (.v 8) .copy)])
   (.seq
    (.region [] [] [0, 6, 7] false [
      (none, .mv 9 (.v 2)),
      (none, .bin 10 .sub (.v 9) (.c (.int .i64 1))),
      (none, .asg 7 (.v 10) .copy)])
    (.block 0
     (.loop
      (.seq
       (.seq
        (.region [] [] [0, 6, 7, 13] false [
          (none, .mv 11 (.v 6)),
          (none, .mv 12 (.v 7)),
          (none, .bin 13 .lss (.v 11) (.v 12))])
        (.cond (.v 13)
         (.skip [0, 6, 7])
         (.exit 0 [0])))
       (.block 1
        (.seq
         (.region [(27, 0, false), (26, 0, false), (24, 0, false), (22, 0, false), (20, 0, false), (18, 0, false), (16, 0, false), (14, 0, false)] [] [0, 6, 7] true [
           (none, .mvr 14 0),
           (none, .mv 15 (.v 6)),
           (none, .mvr 16 0),
           (none, .mv 17 (.v 7)),
           (none, .mvr 18 0),
           (none, .mv 19 (.v 7)),
           (none, .iadr 20 1 (.v 18) (.v 19)),
           (none, .load 21 false 1 (.v 20) none),
           (none, .mvr 22 0),
           (none, .mv 23 (.v 6)),
           (none, .iadr 24 1 (.v 22) (.v 23)),
           (none, .load 25 false 1 (.v 24) none),
           (none, .iadr 26 1 (.v 14) (.v 15)),
           (none, .store 1 (.v 26) (.v 21) .copy),
           (none, .iadr 27 1 (.v 16) (.v 17)),
           (none, .store 1 (.v 27) (.v 25) .copy)])
         (.seq
          (.region [] [] [0, 6, 7] false [
            (none, .mv 28 (.v 6)),
            (none, .bin 29 .add (.v 28) (.c (.int .i64 1))),
            (none, .asg 6 (.v 29) .copy)])
          (.region [] [] [0, 6, 7] false [
            (none, .mv 30 (.v 7)),
            (none, .bin 31 .sub (.v 30) (.c (.int .i64 1))),
            (none, .asg 7 (.v 31) .copy)])))))))))⟩
def F859 : PFunc :=
 ⟨[true, false, false, false], [],
  (.seq
   (.region [] [] [0, 1, 2, 3, 8] false [
     (none, .asg 8 (.c (.bool true)) .copy)])
   (.seq
    (.region [] [] [0, 1, 2, 3, 8, 9] false [
      (none, .asg 9 (.c (.bool true)) .copy)])
    (.block 0
     (.loop
      (.block 1
       (.seq
        (.region [] [] [0, 1, 2, 3, 8, 9, 10] false [
          (none, .mv 19 (.v 2)),
          (none, .mv 20 (.v 1)),
          (none, .bin 21 .sub (.v 19) (.v 20)),
          (none, .asg 10 (.v 21) .copy)])
        (.seq
         (.seq
          (.region [] [] [0, 1, 2, 3, 8, 9, 10, 23] false [
            (none, .mv 22 (.v 10)),
            (none, .bin 23 .leq (.v 22) (.c (.int .i64 12)))])
          (.cond (.v 23)
           (.seq
            (.region [(24, 0, false)] [] [0] false [
              (none, .mv 24 (.v 0)),
              (none, .mv 25 (.v 1)),
              (none, .mv 26 (.v 2)),
              (none, .call (some 27) 844 false [((.v 24), true), ((.v 25), false), ((.v 26), false)])])
            (.ret [0]))
           (.skip [0, 1, 2, 3, 8, 9, 10])))
         (.seq
          (.seq
           (.region [] [] [0, 1, 2, 3, 8, 9, 10, 29] false [
             (none, .mv 28 (.v 3)),
             (none, .bin 29 .eql (.v 28) (.c (.int .i64 0)))])
           (.cond (.v 29)
            (.seq
             (.region [(30, 0, false)] [] [0] false [
               (none, .mv 30 (.v 0)),
               (none, .mv 31 (.v 1)),
               (none, .mv 32 (.v 2)),
               (none, .call (some 33) 841 false [((.v 30), true), ((.v 31), false), ((.v 32), false)])])
             (.ret [0]))
            (.skip [0, 1, 2, 3, 8, 9, 10])))
          (.seq
           (.seq
            (.region [] [] [0, 1, 2, 3, 8, 9, 10, 35] false [
              (none, .mv 34 (.v 8)),
              (none, .un 35 .not (.v 34))])
            (.cond (.v 35)
             (.seq
              (.region [(36, 0, false)] [] [0, 1, 2, 3, 8, 9, 10] false [
                (none, .mv 36 (.v 0)),
                (none, .mv 37 (.v 1)),
                (none, .mv 38 (.v 2)),
                (none, .call (some 39) 837 false [((.v 36), true), ((.v 37), false), ((.v 38), false)])])
              (.region [] [] [0, 1, 2, 3, 8, 9, 10] false [
                (none, .mv 40 (.v 3)),
                (none, .bin 41 .sub (.v 40) (.c (.int .i64 1))),
                (none, .asg 3 (.v 41) .copy)]))
             (.skip [0, 1, 2, 3, 8, 9, 10])))
           (.seq
            (.region [(43, 0, false)] [] [0, 1, 2, 3, 8, 9, 10, 11, 12] false [
              (none, .mv 43 (.v 0)),
              (none, .mv 44 (.v 1)),
              (none, .mv 45 (.v 2)),
              (none, .call (some 46) 839 false [((.v 43), false), ((.v 44), false), ((.v 45), false)]),
              (none, .asg 42 (.v 46) .copy),
              (none, .extp 47 (.v 42) 0),
              (none, .extp 48 (.v 42) 1),
              (none, .asg 11 (.v 47) .copy),
              (none, .asg 12 (.v 48) .copy)])
            (.seq
             (.seq
              (.region [] [] [0, 1, 2, 3, 8, 9, 10, 11, 12, 50] false [
                (none, .mv 49 (.v 12)),
                (none, .bin 50 .eql (.v 49) (.c (.int .i64 2)))])
              (.cond (.v 50)
               (.seq
                (.region [(51, 0, false)] [] [0, 1, 2, 3, 8, 9, 10, 11] false [
                  (none, .mv 51 (.v 0)),
                  (none, .mv 52 (.v 1)),
                  (none, .mv 53 (.v 2)),
                  (none, .call (some 54) 861 false [((.v 51), true), ((.v 52), false), ((.v 53), false)])])
                (.seq
                 (.region [] [] [0, 1, 2, 3, 8, 9, 10, 11] false [
                   (none, .mv 55 (.v 2)),
                   (none, .bin 56 .sub (.v 55) (.c (.int .i64 1))),
                   (none, .mv 57 (.v 11)),
                   (none, .mv 58 (.v 1)),
                   (none, .bin 59 .sub (.v 57) (.v 58)),
                   (none, .bin 60 .sub (.v 56) (.v 59)),
                   (none, .asg 11 (.v 60) .copy)])
                 (.region [] [] [0, 1, 2, 3, 8, 9, 10, 11, 12] false [
                   (none, .asg 12 (.c (.int .i64 1)) .copy)])))
               (.skip [0, 1, 2, 3, 8, 9, 10, 11, 12])))
             (.seq
              (.seq
               (.region [] [] [0, 1, 2, 3, 8, 9, 10, 11, 68] false [
                 (none, .mv 61 (.v 8)),
                 (none, .mv 62 (.v 61)),
                 (some (62, true), .mv 63 (.v 9)),
                 (none, .pick 64 (.v 62) (.v 63) (.c (.bool false))),
                 (none, .mv 65 (.v 64)),
                 (some (65, true), .mv 66 (.v 12)),
                 (some (65, true), .bin 67 .eql (.v 66) (.c (.int .i64 1))),
                 (none, .pick 68 (.v 65) (.v 67) (.c (.bool false)))])
               (.cond (.v 68)
                (.seq
                 (.region [(69, 0, false)] [] [0, 1, 2, 3, 8, 9, 10, 11, 72] false [
                   (none, .mv 69 (.v 0)),
                   (none, .mv 70 (.v 1)),
                   (none, .mv 71 (.v 2)),
                   (none, .call (some 72) 853 false [((.v 69), true), ((.v 70), false), ((.v 71), false)])])
                 (.cond (.v 72)
                  (.ret [0])
                  (.skip [0, 1, 2, 3, 8, 9, 10, 11])))
                (.skip [0, 1, 2, 3, 8, 9, 10, 11])))
              (.seq
               (.seq
                (.region [(83, 0, false), (81, 0, false), (79, 0, false), (76, 0, false)] [] [0, 1, 2, 3, 8, 9, 10, 11, 87] true [
                  (none, .mv 73 (.v 1)),
                  (none, .bin 74 .gtr (.v 73) (.c (.int .i64 0))),
                  (none, .mv 75 (.v 74)),
                  (some (75, true), .mvr 76 0),
                  (some (75, true), .mv 77 (.v 1)),
                  (some (75, true), .bin 78 .sub (.v 77) (.c (.int .i64 1))),
                  (some (75, true), .iadr 79 1 (.v 76) (.v 78)),
                  (some (75, true), .load 80 false 1 (.v 79) none),
                  (some (75, true), .mvr 81 0),
                  (some (75, true), .mv 82 (.v 11)),
                  (some (75, true), .iadr 83 1 (.v 81) (.v 82)),
                  (some (75, true), .load 84 false 1 (.v 83) none),
                  (some (75, true), .call (some 85) 28 false [((.v 80), false), ((.v 84), false)]),
                  (some (75, true), .un 86 .not (.v 85)),
                  (none, .pick 87 (.v 75) (.v 86) (.c (.bool false)))])
                (.cond (.v 87)
                 (.seq
                  (.region [(88, 0, false)] [] [0, 2, 3, 8, 9, 13] false [
                    (none, .mv 88 (.v 0)),
                    (none, .mv 89 (.v 1)),
                    (none, .mv 90 (.v 2)),
                    (none, .mv 91 (.v 11)),
                    (none, .call (some 92) 855 false [((.v 88), true), ((.v 89), false), ((.v 90), false), ((.v 91), false)]),
                    (none, .asg 13 (.v 92) .copy)])
                  (.seq
                   (.region [] [] [0, 1, 2, 3, 8, 9] false [
                     (none, .mv 93 (.v 13)),
                     (none, .asg 1 (.v 93) .copy)])
                   (.exit 1 [0, 1, 2, 3, 8, 9])))
                 (.skip [0, 1, 2, 3, 10, 11])))
               (.seq
                (.region [(95, 0, false)] [] [0, 1, 2, 3, 10, 14, 15] false [
                  (none, .mv 95 (.v 0)),
                  (none, .mv 96 (.v 1)),
                  (none, .mv 97 (.v 2)),
                  (none, .mv 98 (.v 11)),
                  (none, .call (some 99) 857 false [((.v 95), true), ((.v 96), false), ((.v 97), false), ((.v 98), false)]),
                  (none, .asg 94 (.v 99) .copy),
                  (none, .extp 100 (.v 94) 0),
                  (none, .extp 101 (.v 94) 1),
                  (none, .asg 14 (.v 100) .copy),
                  (none, .asg 15 (.v 101) .copy)])
                (.seq
                 (.region [] [] [0, 1, 2, 3, 9, 10, 14] false [
                   (none, .mv 102 (.v 15)),
                   (none, .asg 9 (.v 102) .copy)])
                 (.seq
                  (.region [] [] [0, 1, 2, 3, 9, 10, 14, 16, 17] false [
                    (none, .mv 103 (.v 14)),
                    (none, .mv 104 (.v 1)),
                    (none, .bin 105 .sub (.v 103) (.v 104)),
                    (none, .mv 106 (.v 2)),
                    (none, .mv 107 (.v 14)),
                    (none, .bin 108 .sub (.v 106) (.v 107)),
                    (none, .asg 16 (.v 105) .copy),
                    (none, .asg 17 (.v 108) .copy)])
                  (.seq
                   (.region [] [] [0, 1, 2, 3, 9, 14, 16, 17, 18] false [
                     (none, .mv 109 (.v 10)),
                     (none, .bin 110 .quo (.v 109) (.c (.int .i64 8))),
                     (none, .asg 18 (.v 110) .copy)])
                   (.seq
                    (.region [] [] [0, 1, 2, 3, 9, 14, 16, 17, 18, 113] false [
                      (none, .mv 111 (.v 16)),
                      (none, .mv 112 (.v 17)),
                      (none, .bin 113 .lss (.v 111) (.v 112))])
                    (.cond (.v 113)
                     (.seq
                      (.region [] [] [0, 1, 2, 3, 8, 9, 14] false [
                        (none, .mv 114 (.v 16)),
                        (none, .mv 115 (.v 18)),
                        (none, .bin 116 .geq (.v 114) (.v 115)),
                        (none, .asg 8 (.v 116) .copy)])
                      (.seq
                       (.region [(117, 0, false)] [] [0, 2, 3, 8, 9, 14] false [
                         (none, .mv 117 (.v 0)),
                         (none, .mv 118 (.v 1)),
                         (none, .mv 119 (.v 14)),
                         (none, .mv 120 (.v 3)),
                         (none, .call (some 121) 859 false [((.v 117), true), ((.v 118), false), ((.v 119), false), ((.v 120), false)])])
                       (.region [] [] [0, 1, 2, 3, 8, 9] false [
                         (none, .mv 122 (.v 14)),
                         (none, .bin 123 .add (.v 122) (.c (.int .i64 1))),
                         (none, .asg 1 (.v 123) .copy)])))
                     (.seq
                      (.region [] [] [0, 1, 2, 3, 8, 9, 14] false [
                        (none, .mv 124 (.v 17)),
                        (none, .mv 125 (.v 18)),
                        (none, .bin 126 .geq (.v 124) (.v 125)),
                        (none, .asg 8 (.v 126) .copy)])
                      (.seq
                       (.region [(127, 0, false)] [] [0, 1, 3, 8, 9, 14] false [
                         (none, .mv 127 (.v 0)),
                         (none, .mv 128 (.v 14)),
                         (none, .bin 129 .add (.v 128) (.c (.int .i64 1))),
                         (none, .mv 130 (.v 2)),
                         (none, .mv 131 (.v 3)),
                         (none, .call (some 132) 859 false [((.v 127), true), ((.v 129), false), ((.v 130), false), ((.v 131), false)])])
                       (.region [] [] [0, 1, 2, 3, 8, 9] false [
                         (none, .mv 133 (.v 14)),
                         (none, .asg 2 (.v 133) .copy)]))))))))))))))))))))))⟩
def F835 : PFunc :=
 ⟨[true], [],
  (.seq
   (.region [(3, 0, false)] [] [0, 2] false [
     (none, .mv 3 (.v 0)),
     (none, .len 4 false (.v 3)),
     (none, .asg 2 (.v 4) .copy)])
   (.region [(5, 0, false)] [] [0] false [
     (none, .mv 5 (.v 0)),
     (none, .mv 6 (.v 2)),
     (none, .mv 7 (.v 2)),
     (none, .conv 8 .u64 (.v 7)),
     (none, .call (some 9) 778 false [((.v 8), false)]),
     (none, .call (some 10) 859 false [((.v 5), true), ((.c (.int .i64 0)), false), ((.v 6), false), ((.v 9), false)])]))⟩
def F186 : PFunc :=
 ⟨[false], [.tmp 2, .tmp 3],
  (.seq
   (.region [] [] [0] false [
     (none, .asg 2 (.c (.int .i64 0)) .copy),
     (none, .asg 3 (.c (.int .i64 0)) .copy)])
   (.seq
    (.seq
     (.region [] [] [0, 7] false [
       (none, .mv 5 (.v 0)),
       (none, .call (some 6) 229 false [((.v 5), false)]),
       (none, .un 7 .not (.v 6))])
     (.cond (.v 7)
      (.seq
       (.region [] [] [2, 3] false [
         (none, .asg 2 (.c (.int .i64 0)) .copy),
         (none, .asg 3 (.c (.int .i64 1)) .copy)])
       (.ret [2, 3]))
      (.skip [0])))
    (.seq
     (.region [] [] [4] false [
       (none, .mv 8 (.v 0)),
       (none, .s2b 9 (.v 8)),
       (none, .asg 4 (.v 9) .move)])
     (.seq
      (.region [(10, 4, false)] [] [4] false [
        (none, .mv 10 (.v 4)),
        (none, .call (some 11) 835 false [((.v 10), true)])])
      (.seq
       (.region [(12, 4, false)] [] [2, 3] false [
         (none, .mv 12 (.v 4)),
         (none, .call (some 13) 790 false [((.v 12), true)]),
         (none, .len 14 false (.v 13)),
         (none, .asg 2 (.v 14) .copy),
         (none, .asg 3 (.c (.int .i64 0)) .copy)])
       (.ret [2, 3]))))))⟩
def F384 : PFunc :=
 ⟨[false, false, false], [.tmp 6],
  (.seq
   (.region [] [] [0, 1, 2] false [
     (none, .asg 6 (.c (.int .i64 0)) .copy)])
   (.seq
    (.seq
     (.region [(8, 0, false)] [] [0, 1, 2, 14] false [
       (none, .mv 7 (.v 1)),
       (none, .mv 8 (.v 0)),
       (none, .len 9 false (.v 8)),
       (none, .bin 10 .geq (.v 7) (.v 9)),
       (none, .mv 11 (.v 10)),
       (some (11, false), .mv 12 (.v 2)),
       (some (11, false), .bin 13 .lss (.v 12) (.c (.int .i64 1))),
       (none, .pick 14 (.v 11) (.c (.bool true)) (.v 13))])
     (.cond (.v 14)
      (.seq
       (.region [] [] [6] false [
         (none, .asg 6 (.c (.int .i64 0)) .copy)])
       (.ret [6]))
      (.skip [0, 1, 2])))
    (.seq
     (.region [(17, 0, false), (15, 0, false)] [] [6] false [
       (none, .mv 15 (.v 0)),
       (none, .mv 16 (.v 1)),
       (none, .iadr 17 1 (.v 15) (.v 16)),
       (none, .load 18 false 1 (.v 17) none),
       (none, .conv 19 .i64 (.v 18)),
       (none, .mv 20 (.v 2)),
       (none, .bin 21 .rem (.v 19) (.v 20)),
       (none, .asg 6 (.v 21) .copy)])
     (.ret [6]))))⟩
def F386 : PFunc :=
 ⟨[false, false], [.tmp 4],
  (.seq
   (.region [] [] [0, 1] false [
     (none, .asg 4 (.c (.bool false)) .copy)])
   (.seq
    (.region [(9, 1, false), (5, 0, false)] [] [4] false [
      (none, .mv 5 (.v 0)),
      (none, .len 6 false (.v 5)),
      (none, .bin 7 .gtr (.v 6) (.c (.int .i64 3000))),
      (none, .mv 8 (.v 7)),
      (some (8, false), .mv 9 (.v 1)),
      (some (8, false), .len 10 false (.v 9)),
      (some (8, false), .bin 11 .gtr (.v 10) (.c (.int .i64 3000))),
      (none, .pick 12 (.v 8) (.c (.bool true)) (.v 11)),
      (none, .asg 4 (.v 12) .copy)])
    (.ret [4])))⟩
def F603 : PFunc :=
 ⟨[false], [.tmp 2],
  (.seq
   (.region [] [] [0] false [
     (none, .asg 2 (.c .nilp) .copy)])
   (.seq
    (.region [(3, 0, false)] [] [2] false [
      (none, .mv 3 (.v 0)),
      (none, .build 4 [(.sl false 1 []), (.int .i64 0), (.int .u64 0)] [(0, 1, (.v 3), .move)]),
      (none, .box 5 (.v 4) .move),
      (none, .asg 2 (.v 5) .move)])
    (.ret [2])))⟩
def F5 : PFunc :=
 ⟨[true], [.tmp 2],
  (.seq
   (.region [] [] [0] false [
     (none, .asg 2 (.c (.int .i64 0)) .copy)])
   (.seq
    (.region [] [] [0, 3] false [
      (none, .asg 3 (.c (.int .i64 0)) .copy)])
    (.seq
     (.seq
      (.region [(11, 0, true), (10, 0, false), (9, 0, false), (8, 0, false), (6, 0, false), (5, 0, false), (4, 0, false)] [] [0, 3, 13] true [
        (none, .mvr 4 0),
        (none, .nchk 5 (.v 4)),
        (none, .fadr 6 1 1 (.v 5)),
        (none, .load 7 false 1 (.v 6) none),
        (none, .mvr 8 0),
        (none, .nchk 9 (.v 8)),
        (none, .fadr 10 0 1 (.v 9)),
        (none, .load 11 false 1 (.v 10) none),
        (none, .len 12 false (.v 11)),
        (none, .bin 13 .lss (.v 7) (.v 12))])
      (.cond (.v 13)
       (.region [(22, 0, true), (20, 0, false), (19, 0, false), (18, 0, false), (17, 0, true), (16, 0, false), (15, 0, false), (14, 0, false)] [] [0, 3] true [
         (none, .mvr 14 0),
         (none, .nchk 15 (.v 14)),
         (none, .fadr 16 0 1 (.v 15)),
         (none, .load 17 false 1 (.v 16) none),
         (none, .mvr 18 0),
         (none, .nchk 19 (.v 18)),
         (none, .fadr 20 1 1 (.v 19)),
         (none, .load 21 false 1 (.v 20) none),
         (none, .iadr 22 1 (.v 17) (.v 21)),
         (none, .load 23 false 1 (.v 22) none),
         (none, .conv 24 .i64 (.v 23)),
         (none, .asg 3 (.v 24) .copy)])
       (.skip [0, 3])))
     (.seq
      (.region [(31, 0, false), (30, 0, false), (27, 0, false), (26, 0, false), (25, 0, false)] [] [0, 3] false [
        (none, .mv 25 (.v 0)),
        (none, .nchk 26 (.v 25)),
        (none, .fadr 27 1 1 (.v 26)),
        (none, .load 28 false 1 (.v 27) none),
        (none, .bin 29 .add (.v 28) (.c (.int .i64 1))),
        (none, .nchk 30 (.v 25)),
        (none, .fadr 31 1 1 (.v 30)),
        (none, .store 1 (.v 31) (.v 29) .copy)])
      (.seq
       (.region [(43, 0, false), (42, 0, false), (35, 0, false), (34, 0, false), (33, 0, false), (32, 0, false)] [] [0, 3] false [
         (none, .mv 32 (.v 0)),
         (none, .mv 33 (.v 0)),
         (none, .nchk 34 (.v 33)),
         (none, .fadr 35 2 1 (.v 34)),
         (none, .load 36 false 1 (.v 35) none),
         (none, .bin 37 .mul (.v 36) (.c (.int .u64 6364136223846793005))),
         (none, .mv 38 (.v 3)),
         (none, .conv 39 .u64 (.v 38)),
         (none, .bin 40 .add (.v 37) (.v 39)),
         (none, .bin 41 .add (.v 40) (.c (.int .u64 1442695040888963407))),
         (none, .nchk 42 (.v 32)),
         (none, .fadr 43 2 1 (.v 42)),
         (none, .store 1 (.v 43) (.v 41) .copy)])
       (.seq
        (.seq
         (.region [(51, 0, true), (50, 0, false), (49, 0, false), (48, 0, false), (46, 0, false), (45, 0, false), (44, 0, false)] [] [0, 3, 53] true [
           (none, .mvr 44 0),
           (none, .nchk 45 (.v 44)),
           (none, .fadr 46 1 1 (.v 45)),
           (none, .load 47 false 1 (.v 46) none),
           (none, .mvr 48 0),
           (none, .nchk 49 (.v 48)),
           (none, .fadr 50 0 1 (.v 49)),
           (none, .load 51 false 1 (.v 50) none),
           (none, .len 52 false (.v 51)),
           (none, .bin 53 .leq (.v 47) (.v 52))])
         (.cond (.v 53)
          (.seq
           (.region [] [] [0, 2] false [
             (none, .mv 54 (.v 3)),
             (none, .asg 2 (.v 54) .copy)])
           (.ret [0, 2]))
          (.skip [0])))
        (.seq
         (.region [(57, 0, false), (56, 0, false), (55, 0, false)] [] [0, 2] false [
           (none, .mv 55 (.v 0)),
           (none, .nchk 56 (.v 55)),
           (none, .fadr 57 2 1 (.v 56)),
           (none, .load 58 false 1 (.v 57) none),
           (none, .bin 59 .shr (.v 58) (.c (.int .u64 40))),
           (none, .bin 60 .and (.v 59) (.c (.int .u64 255))),
           (none, .conv 61 .i64 (.v 60)),
           (none, .asg 2 (.v 61) .copy)])
         (.ret [0, 2]))))))))⟩
def F7 : PFunc :=
 ⟨[true, false], [.tmp 4],
  (.seq
   (.region [] [] [0, 1] false [
     (none, .asg 4 (.c (.int .i64 0)) .copy)])
   (.seq
    (.seq
     (.region [] [] [0, 1, 7] false [
       (none, .mv 6 (.v 1)),
       (none, .bin 7 .leq (.v 6) (.c (.int .i64 1)))])
     (.cond (.v 7)
      (.seq
       (.region [] [] [0, 4] false [
         (none, .asg 4 (.c (.int .i64 0)) .copy)])
       (.ret [0, 4]))
      (.skip [0, 1])))
    (.seq
     (.region [(8, 0, false)] [] [0, 1, 5] false [
       (none, .mv 8 (.v 0)),
       (none, .call (some 9) 5 true [((.v 8), true)]),
       (none, .asg 5 (.v 9) .copy)])
     (.seq
      (.seq
       (.region [] [] [0, 1, 5, 11] false [
         (none, .mv 10 (.v 1)),
         (none, .bin 11 .gtr (.v 10) (.c (.int .i64 200)))])
       (.cond (.v 11)
        (.region [(14, 0, false)] [] [0, 1, 5] false [
          (none, .mv 12 (.v 5)),
          (none, .bin 13 .mul (.v 12) (.c (.int .i64 256))),
          (none, .mv 14 (.v 0)),
          (none, .call (some 15) 5 true [((.v 14), true)]),
          (none, .bin 16 .add (.v 13) (.v 15)),
          (none, .asg 5 (.v 16) .copy)])
        (.skip [0, 1, 5])))
      (.seq
       (.region [] [] [0, 4] false [
         (none, .mv 17 (.v 5)),
         (none, .mv 18 (.v 1)),
         (none, .bin 19 .rem (.v 17) (.v 18)),
         (none, .asg 4 (.v 19) .copy)])
       (.ret [0, 4]))))))⟩
def F753 : PFunc :=
 ⟨[true], [.tmp 2],
  (.seq
   (.region [] [] [0] false [
     (none, .asg 2 (.c (.str [])) .copy)])
   (.seq
    (.region [] [] [0, 3] false [
      (none, .mksl 6 1 (.int .u8 0) 0 []),
      (none, .asg 3 (.v 6) .move)])
    (.seq
     (.region [(7, 0, false)] [] [0, 3, 4] false [
       (none, .mv 7 (.v 0)),
       (none, .call (some 8) 7 true [((.v 7), true), ((.c (.int .i64 6)), false)]),
       (none, .bin 9 .add (.c (.int .i64 2)) (.v 8)),
       (none, .asg 4 (.v 9) .copy)])
     (.seq
      (.seq
       (.region [(10, 0, false)] [] [0, 3, 4, 5] false [
         (none, .mv 10 (.v 0)),
         (none, .call (some 11) 7 true [((.v 10), true), ((.c (.int .i64 20)), false)]),
         (none, .asg 5 (.v 11) .copy)])
       (.block 0
        (.loop
         (.seq
          (.seq
           (.region [] [] [0, 3, 4, 5, 13] false [
             (none, .mv 12 (.v 5)),
             (none, .bin 13 .gtr (.v 12) (.c (.int .i64 0)))])
           (.cond (.v 13)
            (.skip [0, 3, 4, 5])
            (.exit 0 [0, 3])))
          (.seq
           (.block 1
            (.region [(17, 0, false), (16, 3, false)] [] [0, 3, 4, 5] false [
              (none, .mv 16 (.v 3)),
              (none, .mv 17 (.v 0)),
              (none, .mv 18 (.v 4)),
              (none, .call (some 19) 7 true [((.v 17), true), ((.v 18), false)]),
              (none, .bin 20 .add (.c (.int .i64 97)) (.v 19)),
              (none, .conv 21 .u8 (.v 20)),
              (none, .mksl 22 1 (.int .u8 0) 1 [(0, (.v 21), .copy)]),
              (none, .app 23 1 (.v 16) (.v 22) .move),
              (none, .asg 3 (.v 23) .move)]))
           (.region [] [] [0, 3, 4, 5] false [
             (none, .mv 14 (.v 5)),
             (none, .bin 15 .sub (.v 14) (.c (.int .i64 1))),
             (none, .asg 5 (.v 15) .copy)]))))))
      (.seq
       (.region [(24, 3, false)] [] [0, 2] false [
         (none, .mv 24 (.v 3)),
         (none, .b2s 25 (.v 24)),
         (none, .asg 2 (.v 25) .copy)])
       (.ret [0, 2]))))))⟩
def F433 : PFunc :=
 ⟨[false], [.tmp 2],
  (.seq
   (.region [] [] [0] false [
     (none, .asg 2 (.c (.str [])) .copy)])
   (.seq
    (.region [(3, 0, false)] [] [2] false [
      (none, .mv 3 (.v 0)),
      (none, .call (some 4) 603 true [((.v 3), false)]),
      (none, .call (some 5) 753 true [((.v 4), true)]),
      (none, .asg 2 (.v 5) .copy)])
    (.ret [2])))⟩
def F364 : PFunc :=
 ⟨[false, false], [.tmp 4],
  (.seq
   (.region [] [] [0, 1] false [
     (none, .asg 4 (.c (.bool false)) .copy)])
   (.seq
    (.seq
     (.region [(23, 1, false), (22, 0, false)] [] [0, 1, 24] false [
       (none, .mv 22 (.v 0)),
       (none, .mv 23 (.v 1)),
       (none, .call (some 24) 386 false [((.v 22), false), ((.v 23), false)])])
     (.cond (.v 24)
      (.seq
       (.region [] [] [4] false [
         (none, .asg 4 (.c (.bool true)) .copy)])
       (.ret [4]))
      (.skip [0, 1])))
    (.seq
     (.region [(25, 0, false)] [] [1, 5] false [
       (none, .mv 25 (.v 0)),
       (none, .call (some 26) 433 false [((.v 25), false)]),
       (none, .asg 5 (.v 26) .copy)])
     (.seq
      (.region [] [] [1, 5, 6, 7] false [
        (none, .mv 28 (.v 5)),
        (none, .call (some 29) 186 false [((.v 28), false)]),
        (none, .asg 27 (.v 29) .copy),
        (none, .extp 30 (.v 27) 0),
        (none, .extp 31 (.v 27) 1),
        (none, .asg 6 (.v 30) .copy),
        (none, .asg 7 (.v 31) .copy)])
      (.seq
       (.seq
        (.region [] [] [1, 5, 6, 43] false [
          (none, .mv 32 (.v 7)),
          (none, .bin 33 .neq (.v 32) (.c (.int .i64 0))),
          (none, .mv 34 (.v 33)),
          (some (34, false), .mv 35 (.v 6)),
          (some (34, false), .bin 36 .lss (.v 35) (.c (.int .i64 0))),
          (none, .pick 37 (.v 34) (.c (.bool true)) (.v 36)),
          (none, .mv 38 (.v 37)),
          (some (38, false), .mv 39 (.v 6)),
          (some (38, false), .mv 40 (.v 5)),
          (some (38, false), .len 41 true (.v 40)),
          (some (38, false), .bin 42 .gtr (.v 39) (.v 41)),
          (none, .pick 43 (.v 38) (.c (.bool true)) (.v 42))])
        (.cond (.v 43)
         (.seq
          (.region [] [] [4] false [
            (none, .asg 4 (.c (.bool false)) .copy)])
          (.ret [4]))
         (.skip [1, 5, 6])))
       (.seq
        (.region [] [] [1, 5, 6, 8] false [
          (none, .mv 44 (.v 5)),
          (none, .len 45 true (.v 44)),
          (none, .asg 8 (.v 45) .copy)])
        (.seq
         (.region [] [] [1, 5, 6, 8, 9] false [
           (none, .mksl 46 1 (.int .i64 0) 0 []),
           (none, .asg 9 (.v 46) .move)])
         (.seq
          (.seq
           (.region [] [] [1, 5, 6, 8, 9, 10] false [
             (none, .asg 10 (.c (.int .i64 1)) .copy)])
           (.block 0
            (.loop
             (.seq
              (.seq
               (.region [] [] [1, 5, 6, 8, 9, 10, 48] false [
                 (none, .mv 47 (.v 10)),
                 (none, .bin 48 .leq (.v 47) (.c (.int .i64 6)))])
               (.cond (.v 48)
                (.skip [1, 5, 6, 8, 9, 10])
                (.exit 0 [1, 5, 9])))
              (.seq
               (.block 1
                (.seq
                 (.region [] [] [1, 5, 6, 8, 9, 10, 11, 12] false [
                   (none, .mv 52 (.v 5)),
                   (none, .mv 53 (.v 10)),
                   (none, .call (some 54) 90 false [((.v 52), false), ((.v 53), false)]),
                   (none, .asg 51 (.v 54) .copy),
                   (none, .extp 55 (.v 51) 0),
                   (none, .extp 56 (.v 51) 1),
                   (none, .asg 11 (.v 55) .copy),
                   (none, .asg 12 (.v 56) .copy)])
                 (.seq
                  (.seq
                   (.region [] [] [1, 5, 6, 9, 10, 11, 78] false [
                     (none, .mv 57 (.v 12)),
                     (none, .bin 58 .neq (.v 57) (.c (.int .i64 0))),
                     (none, .mv 59 (.v 58)),
                     (some (59, false), .mv 60 (.v 11)),
                     (some (59, false), .mv 61 (.v 8)),
                     (some (59, false), .bin 62 .gtr (.v 60) (.v 61)),
                     (none, .pick 63 (.v 59) (.c (.bool true)) (.v 62)),
                     (none, .mv 64 (.v 63)),
                     (some (64, false), .mv 65 (.v 11)),
                     (some (64, false), .mv 66 (.v 6)),
                     (some (64, false), .bin 67 .lss (.v 65) (.v 66)),
                     (none, .pick 68 (.v 64) (.c (.bool true)) (.v 67)),
                     (none, .mv 69 (.v 68)),
                     (some (69, false), .mv 70 (.v 10)),
                     (some (69, false), .mv 71 (.v 6)),
                     (some (69, false), .bin 72 .geq (.v 70) (.v 71)),
                     (some (69, false), .mv 73 (.v 72)),
                     (some (73, true), .mv 74 (.v 11)),
                     (some (73, true), .mv 75 (.v 6)),
                     (some (73, true), .bin 76 .neq (.v 74) (.v 75)),
                     (some (69, false), .pick 77 (.v 73) (.v 76) (.c (.bool false))),
                     (none, .pick 78 (.v 69) (.c (.bool true)) (.v 77))])
                   (.cond (.v 78)
                    (.seq
                     (.region [] [] [4] false [
                       (none, .asg 4 (.c (.bool false)) .copy)])
                     (.ret [4]))
                    (.skip [1, 5, 6, 9, 10, 11])))
                  (.seq
                   (.region [] [] [1, 5, 6, 8, 9, 10, 11] false [
                     (none, .mv 79 (.v 11)),
                     (none, .asg 8 (.v 79) .copy)])
                   (.region [(80, 9, false)] [] [1, 5, 6, 8, 9, 10] false [
                     (none, .mv 80 (.v 9)),
                     (none, .mv 81 (.v 11)),
                     (none, .mksl 82 1 (.int .i64 0) 1 [(0, (.v 81), .copy)]),
                     (none, .app 83 1 (.v 80) (.v 82) .move),
                     (none, .asg 9 (.v 83) .move)])))))
               (.region [] [] [1, 5, 6, 8, 9, 10] false [
                 (none, .mv 49 (.v 10)),
                 (none, .bin 50 .add (.v 49) (.c (.int .i64 1))),
                 (none, .asg 10 (.v 50) .copy)]))))))
          (.seq
           (.region [(84, 1, false)] [] [5, 9, 13] false [
             (none, .mv 84 (.v 1)),
             (none, .call (some 85) 384 false [((.v 84), false), ((.c (.int .i64 0)), false), ((.c (.int .i64 20)), false)]),
             (none, .asg 13 (.v 85) .copy)])
           (.seq
            (.region [] [] [5, 9, 13, 14, 15] false [
              (none, .mv 87 (.v 5)),
              (none, .mv 88 (.v 13)),
              (none, .call (some 89) 122 false [((.v 87), false), ((.v 88), false)]),
              (none, .asg 86 (.v 89) .copy),
              (none, .extp 90 (.v 86) 0),
              (none, .extp 91 (.v 86) 1),
              (none, .asg 14 (.v 90) .copy),
              (none, .asg 15 (.v 91) .copy)])
            (.seq
             (.region [] [] [5, 9, 13, 14, 15, 16] false [
               (none, .asg 16 (.c (.int .i64 0)) .copy)])
             (.seq
              (.seq
               (.region [(92, 9, false)] [] [5, 9, 13, 14, 15, 16, 17] false [
                 (none, .mv 92 (.v 9)),
                 (none, .len 93 false (.v 92)),
                 (none, .bin 94 .sub (.v 93) (.c (.int .i64 1))),
                 (none, .asg 17 (.v 94) .copy)])
               (.block 2
                (.loop
                 (.seq
                  (.seq
                   (.region [] [] [5, 9, 13, 14, 15, 16, 17, 96] false [
                     (none, .mv 95 (.v 17)),
                     (none, .bin 96 .geq (.v 95) (.c (.int .i64 0)))])
                   (.cond (.v 96)
                    (.skip [5, 9, 13, 14, 15, 16, 17])
                    (.exit 2 [5, 14, 15, 16])))
                  (.seq
                   (.block 3
                    (.seq
                     (.region [(101, 9, false), (99, 9, false)] [] [5, 9, 13, 14, 15, 16, 17, 104] false [
                       (none, .mv 99 (.v 9)),
                       (none, .mv 100 (.v 17)),
                       (none, .iadr 101 1 (.v 99) (.v 100)),
                       (none, .load 102 false 1 (.v 101) none),
                       (none, .mv 103 (.v 13)),
                       (none, .bin 104 .leq (.v 102) (.v 103))])
                     (.cond (.v 104)
                      (.region [] [] [5, 9, 13, 14, 15, 16, 17] false [
                        (none, .mv 105 (.v 17)),
                        (none, .bin 106 .add (.v 105) (.c (.int .i64 1))),
                        (none, .asg 16 (.v 106) .copy)])
                      (.skip [5, 9, 13, 14, 15, 16, 17]))))
                   (.region [] [] [5, 9, 13, 14, 15, 16, 17] false [
                     (none, .mv 97 (.v 17)),
                     (none, .bin 98 .sub (.v 97) (.c (.int .i64 1))),
                     (none, .asg 17 (.v 98) .copy)]))))))
              (.seq
               (.seq
                (.region [] [] [5, 125] false [
                  (none, .mv 107 (.v 16)),
                  (none, .bin 108 .eql (.v 107) (.c (.int .i64 0))),
                  (none, .mv 109 (.v 108)),
                  (some (109, true), .mv 110 (.v 15)),
                  (some (109, true), .bin 111 .neq (.v 110) (.c (.int .i64 3))),
                  (none, .pick 112 (.v 109) (.v 111) (.c (.bool false))),
                  (none, .mv 113 (.v 112)),
                  (some (113, false), .mv 114 (.v 16)),
                  (some (113, false), .bin 115 .gtr (.v 114) (.c (.int .i64 0))),
                  (some (113, false), .mv 116 (.v 115)),
                  (some (116, true), .mv 117 (.v 15)),
                  (some (116, true), .bin 118 .neq (.v 117) (.c (.int .i64 0))),
                  (some (116, true), .mv 119 (.v 118)),
                  (some (119, false), .mv 120 (.v 14)),
                  (some (119, false), .mv 121 (.v 16)),
                  (some (119, false), .bin 122 .neq (.v 120) (.v 121)),
                  (some (116, true), .pick 123 (.v 119) (.c (.bool true)) (.v 122)),
                  (some (113, false), .pick 124 (.v 116) (.v 123) (.c (.bool false))),
                  (none, .pick 125 (.v 113) (.c (.bool true)) (.v 124))])
                (.cond (.v 125)
                 (.seq
                  (.region [] [] [4] false [
                    (none, .asg 4 (.c (.bool false)) .copy)])
                  (.ret [4]))
                 (.skip [5])))
               (.seq
                (.seq
                 (.region [] [] [5, 18] false [
                   (none, .asg 18 (.c (.int .i64 0)) .copy)])
                 (.block 4
                  (.loop
                   (.seq
                    (.seq
                     (.region [] [] [5, 18, 129] false [
                       (none, .mv 126 (.v 18)),
                       (none, .mv 127 (.v 5)),
                       (none, .len 128 true (.v 127)),
                       (none, .bin 129 .lss (.v 126) (.v 128))])
                     (.cond (.v 129)
                      (.skip [5, 18])
                      (.exit 4 [])))
                    (.seq
                     (.block 5
                      (.seq
                       (.region [] [] [5, 18, 19, 20] false [
                         (none, .mv 133 (.v 5)),
                         (none, .mv 134 (.v 18)),
                         (none, .call (some 135) 157 false [((.v 133), false), ((.v 134), false)]),
                         (none, .asg 132 (.v 135) .copy),
                         (none, .extp 136 (.v 132) 0),
                         (none, .extp 137 (.v 132) 1),
                         (none, .asg 19 (.v 136) .copy),
                         (none, .asg 20 (.v 137) .copy)])
                       (.seq
                        (.region [] [] [5, 18, 19, 20, 21] false [
                          (none, .mv 138 (.v 18)),
                          (none, .bin 139 .add (.v 138) (.c (.int .i64 1))),
                          (none, .asg 21 (.v 139) .copy)])
                        (.seq
                         (.block 6
                          (.loop
                           (.seq
                            (.seq
                             (.region [] [] [5, 18, 19, 20, 21, 152] true [
                               (none, .mv 140 (.v 21)),
                               (none, .mv 141 (.v 5)),
                               (none, .len 142 true (.v 141)),
                               (none, .bin 143 .lss (.v 140) (.v 142)),
                               (none, .mv 144 (.v 143)),
                               (some (144, true), .mv 145 (.v 5)),
                               (some (144, true), .mv 146 (.v 21)),
                               (some (144, true), .idx 147 (.v 145) (.v 146)),
                               (some (144, true), .mv 148 (.v 5)),
                               (some (144, true), .mv 149 (.v 18)),
                               (some (144, true), .idx 150 (.v 148) (.v 149)),
                               (some (144, true), .bin 151 .neq (.v 147) (.v 150)),
                               (none, .pick 152 (.v 144) (.v 151) (.c (.bool false)))])
                             (.cond (.v 152)
                              (.skip [5, 18, 19, 20, 21])
                              (.exit 6 [5, 18, 19, 20, 21])))
                            (.block 7
                             (.region [] [] [5, 18, 19, 20, 21] false [
                               (none, .mv 153 (.v 21)),
                               (none, .bin 154 .add (.v 153) (.c (.int .i64 1))),
                               (none, .asg 21 (.v 154) .copy)])))))
                         (.seq
                          (.region [] [] [5, 18, 177] false [
                            (none, .mv 155 (.v 21)),
                            (none, .mv 156 (.v 5)),
                            (none, .len 157 true (.v 156)),
                            (none, .bin 158 .eql (.v 155) (.v 157)),
                            (none, .mv 159 (.v 158)),
                            (some (159, true), .mv 160 (.v 20)),
                            (some (159, true), .bin 161 .neq (.v 160) (.c (.int .i64 3))),
                            (none, .pick 162 (.v 159) (.v 161) (.c (.bool false))),
                            (none, .mv 163 (.v 162)),
                            (some (163, false), .mv 164 (.v 21)),
                            (some (163, false), .mv 165 (.v 5)),
                            (some (163, false), .len 166 true (.v 165)),
                            (some (163, false), .bin 167 .lss (.v 164) (.v 166)),
                            (some (163, false), .mv 168 (.v 167)),
                            (some (168, true), .mv 169 (.v 20)),
                            (some (168, true), .bin 170 .neq (.v 169) (.c (.int .i64 0))),
                            (some (168, true), .mv 171 (.v 170)),
                            (some (171, false), .mv 172 (.v 19)),
                            (some (171, false), .mv 173 (.v 21)),
                            (some (171, false), .bin 174 .neq (.v 172) (.v 173)),
                            (some (168, true), .pick 175 (.v 171) (.c (.bool true)) (.v 174)),
                            (some (163, false), .pick 176 (.v 168) (.v 175) (.c (.bool false))),
                            (none, .pick 177 (.v 163) (.c (.bool true)) (.v 176))])
                          (.cond (.v 177)
                           (.seq
                            (.region [] [] [4] false [
                              (none, .asg 4 (.c (.bool false)) .copy)])
                            (.ret [4]))
                           (.skip [5, 18])))))))
                     (.region [] [] [5, 18] false [
                       (none, .mv 130 (.v 18)),
                       (none, .bin 131 .add (.v 130) (.c (.int .i64 1))),
                       (none, .asg 18 (.v 131) .copy)]))))))
                (.seq
                 (.region [] [] [4] false [
                   (none, .asg 4 (.c (.bool true)) .copy)])
                 (.ret [4]))))))))))))))))⟩
def tabl : List (Nat × PFunc) := [(830, F830), (250, F250), (290, F290), (277, F277), (229, F229), (326, F326), (307, F307), (90, F90), (122, F122), (157, F157), (779, F779), (780, F780), (778, F778), (30, F30), (28, F28), (9, F9), (850, F850), (837, F837), (851, F851), (848, F848), (846, F846), (839, F839), (864, F864), (841, F841), (844, F844), (853, F853), (855, F855), (857, F857), (861, F861), (859, F859), (835, F835), (186, F186), (384, F384), (386, F386), (603, F603), (5, F5), (7, F7), (753, F753), (433, F433), (364, F364)]
def T : Nat → Option PFunc := tabOf tabl
end Go.Vs.G
