/- The functions that the law reaches, in the small language, printed by program. No conditions. -/
import Derived.Test.YtomlgmfkjibijaaDoorDXValidBurning
import Derived.Test.YtomlgmfkjibijaaDoorV4
set_option maxRecDepth 100000
open Go Go.Vs
namespace Go.Vs.G
def F207 : PFunc :=
 ⟨[false], [.tmp 2],
  (.seq
   (.region [] [] [0] false [
     (none, .asg 2 (.c (.bool false)) .copy)])
   (.seq
    (.region [] [] [2] false [
      (none, .mv 3 (.v 0)),
      (none, .len 4 true (.v 3)),
      (none, .bin 5 .leq (.v 4) (.c (.int .i64 60))),
      (none, .mv 6 (.v 5)),
      (some (6, true), .mv 7 (.v 0)),
      (some (6, true), .call (some 8) 876 false [((.v 7), false), ((.c (.str [48, 49])), false)]),
      (some (6, true), .bin 9 .eql (.v 8) (.c (.str []))),
      (none, .pick 10 (.v 6) (.v 9) (.c (.bool false))),
      (none, .asg 2 (.v 10) .copy)])
    (.ret [2])))⟩
def F757 : PFunc :=
 ⟨[false], [.tmp 2],
  (.seq
   (.region [] [] [0] false [
     (none, .asg 2 (.c (.bool false)) .copy)])
   (.seq
    (.seq
     (.region [] [] [0, 3] false [
       (none, .asg 3 (.c (.int .i64 0)) .copy)])
     (.block 0
      (.loop
       (.seq
        (.seq
         (.region [] [] [0, 3, 7] false [
           (none, .mv 4 (.v 3)),
           (none, .mv 5 (.v 0)),
           (none, .len 6 true (.v 5)),
           (none, .bin 7 .lss (.v 4) (.v 6))])
         (.cond (.v 7)
          (.skip [0, 3])
          (.exit 0 [0])))
        (.seq
         (.block 1
          (.seq
           (.region [] [] [0, 3, 19] false [
             (none, .mv 10 (.v 0)),
             (none, .mv 11 (.v 3)),
             (none, .idx 12 (.v 10) (.v 11)),
             (none, .bin 13 .neq (.v 12) (.c (.int .u8 48))),
             (none, .mv 14 (.v 13)),
             (some (14, true), .mv 15 (.v 0)),
             (some (14, true), .mv 16 (.v 3)),
             (some (14, true), .idx 17 (.v 15) (.v 16)),
             (some (14, true), .bin 18 .neq (.v 17) (.c (.int .u8 49))),
             (none, .pick 19 (.v 14) (.v 18) (.c (.bool false)))])
           (.cond (.v 19)
            (.seq
             (.region [] [] [2] false [
               (none, .asg 2 (.c (.bool false)) .copy)])
             (.ret [2]))
            (.skip [0, 3]))))
         (.region [] [] [0, 3] false [
           (none, .mv 8 (.v 3)),
           (none, .bin 9 .add (.v 8) (.c (.int .i64 1))),
           (none, .asg 3 (.v 9) .copy)]))))))
    (.seq
     (.region [] [] [2] false [
       (none, .mv 20 (.v 0)),
       (none, .len 21 true (.v 20)),
       (none, .bin 22 .leq (.v 21) (.c (.int .i64 60))),
       (none, .asg 2 (.v 22) .copy)])
     (.ret [2]))))⟩
def F589 : PFunc :=
 ⟨[false], [.tmp 2],
  (.seq
   (.region [] [] [0] false [
     (none, .asg 2 (.c (.bool false)) .copy)])
   (.seq
    (.region [] [] [2] false [
      (none, .mv 3 (.v 0)),
      (none, .call (some 4) 757 false [((.v 3), false)]),
      (none, .asg 2 (.v 4) .copy)])
    (.ret [2])))⟩
def F349 : PFunc :=
 ⟨[false], [.tmp 2],
  (.seq
   (.region [] [] [0] false [
     (none, .asg 2 (.c (.bool false)) .copy)])
   (.seq
    (.seq
     (.region [] [] [0, 7] false [
       (none, .mv 5 (.v 0)),
       (none, .len 6 true (.v 5)),
       (none, .bin 7 .gtr (.v 6) (.c (.int .i64 1048576)))])
     (.cond (.v 7)
      (.seq
       (.region [] [] [2] false [
         (none, .asg 2 (.c (.bool true)) .copy)])
       (.ret [2]))
      (.skip [0])))
    (.seq
     (.region [] [] [0, 3] false [
       (none, .mv 8 (.v 0)),
       (none, .call (some 9) 589 false [((.v 8), false)]),
       (none, .asg 3 (.v 9) .copy)])
     (.seq
      (.region [] [] [3, 4] false [
        (none, .mv 10 (.v 0)),
        (none, .call (some 11) 207 false [((.v 10), false)]),
        (none, .asg 4 (.v 11) .copy)])
      (.seq
       (.seq
        (.region [] [] [14] false [
          (none, .mv 12 (.v 4)),
          (none, .mv 13 (.v 3)),
          (none, .eqb 14 true (.v 12) (.v 13))])
        (.cond (.v 14)
         (.seq
          (.region [] [] [2] false [
            (none, .asg 2 (.c (.bool false)) .copy)])
          (.ret [2]))
         (.skip [])))
       (.seq
        (.region [] [] [2] false [
          (none, .asg 2 (.c (.bool true)) .copy)])
        (.ret [2])))))))⟩
def tabl : List (Nat × PFunc) := [(207, F207), (757, F757), (589, F589), (349, F349)]
def T : Nat → Option PFunc := tabOf tabl
end Go.Vs.G
