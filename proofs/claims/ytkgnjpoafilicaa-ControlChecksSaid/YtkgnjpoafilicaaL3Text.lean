/-
  The text of each function of this seat, az0 the plain library tells it; each by the kernel's own reckoning from the program.
-/
import Derived.Test.YtkgnjpoafilicaaPbWp
import Derived.Test.YtkgnjpoafilicaaRows
set_option linter.unusedVariables false
set_option maxRecDepth 100000
namespace Go.Proofs.Ytkgnjpoafilicaa
open Go Go.Pb
theorem follows : Try.prog.follows .mixedOrders = true := by kernel_rfl
def ac45_L1 : AC :=
  .seq (.seq (.region false [⟨(some 7), .move (.tmp 3), none, false⟩,
          ⟨(some 8), .move (.tmp 0), none, false⟩,
          ⟨(some 9), .bi .len [23].toArray 3 [(.tmp 8)], none, false⟩,
          ⟨(some 10), .bin .lss 3 (.tmp 7) (.tmp 9), none, false⟩])
      (.cond (.tmp 10)
        (.skip)
        (.exit 0)))
    (.seq (.block 1 (.seq (.region false [⟨(some 13), .move (.tmp 0), none, false⟩,
              ⟨(some 14), .move (.tmp 3), none, false⟩,
              ⟨(some 15), .iaddr 2 (.tmp 13) (.tmp 14), none, false⟩,
              ⟨(some 16), .faddr 0 1 false (.tmp 15), none, false⟩,
              ⟨(some 17), .load 1 false (.tmp 16), none, false⟩,
              ⟨(some 18), .bi .len [9].toArray 3 [(.tmp 17)], none, false⟩,
              ⟨(some 19), .bin .gtr 3 (.tmp 18) (.const (.int .i64 40)), none, false⟩])
          (.cond (.tmp 19)
            (.seq (.region false [⟨(some 2), .move (.const (.bool false)), none, false⟩])
              (.ret))
            (.skip))))
      (.region false [⟨(some 11), .move (.tmp 3), none, false⟩,
          ⟨(some 12), .bin .add 3 (.tmp 11) (.const (.int .i64 1)), none, false⟩,
          ⟨(some 3), .move (.tmp 12), none, false⟩]))
/-- patchbay/patchbaylaw17.fields -/
def ac45 : AC :=
  .seq (.region false [⟨(some 2), .move (.const (.bool false)), none, false⟩])
    (.seq (.seq (.region false [⟨(some 4), .move (.tmp 0), none, false⟩,
            ⟨(some 5), .bi .len [23].toArray 3 [(.tmp 4)], none, false⟩,
            ⟨(some 6), .bin .gtr 3 (.tmp 5) (.const (.int .i64 16)), none, false⟩])
        (.cond (.tmp 6)
          (.seq (.region false [⟨(some 2), .move (.const (.bool false)), none, false⟩])
            (.ret))
          (.skip)))
      (.seq (.seq (.region false [⟨(some 3), .move (.const (.int .i64 0)), none, false⟩])
          (.block 0 (.loop ac45_L1)))
        (.seq (.region false [⟨(some 2), .move (.const (.bool true)), none, false⟩])
          (.ret))))
theorem text45 : FnText Try.prog 45 [] 20 1 ac45 [(2, none)] :=
  ⟨Try.call45, follows, Try.f45, _, Try.func45, rfl, rfl, by decide, by kernel_rfl, by kernel_rfl⟩

def ac46_G1 : List AOper :=
  [⟨(some 9), .faddr 1 1 false (.tmp 1), (some (8, false)), false⟩,
    ⟨(some 10), .load 1 false (.tmp 9), (some (8, false)), false⟩,
    ⟨(some 11), .call (.func 45) [(.tmp 10)], (some (8, false)), false⟩,
    ⟨(some 12), .un .not (.tmp 11), (some (8, false)), false⟩,
    ⟨(some 13), .pick (.tmp 8) (.const (.bool true)) (.tmp 12), none, false⟩]
def ac46_G2 : List AOper :=
  [⟨(some 15), .faddr 2 1 false (.tmp 1), (some (14, false)), false⟩,
    ⟨(some 16), .load 1 false (.tmp 15), (some (14, false)), false⟩,
    ⟨(some 17), .bi .len [79].toArray 3 [(.tmp 16)], (some (14, false)), false⟩,
    ⟨(some 18), .bin .gtr 3 (.tmp 17) (.const (.int .i64 16)), (some (14, false)), false⟩,
    ⟨(some 19), .pick (.tmp 14) (.const (.bool true)) (.tmp 18), none, false⟩]
def ac46_G3 : List AOper :=
  [⟨(some 36), .faddr 2 1 false (.tmp 1), (some (35, false)), false⟩,
    ⟨(some 37), .load 1 false (.tmp 36), (some (35, false)), false⟩,
    ⟨(some 38), .move (.tmp 3), (some (35, false)), false⟩,
    ⟨(some 39), .iaddr 7 (.tmp 37) (.tmp 38), (some (35, false)), false⟩,
    ⟨(some 40), .faddr 6 1 false (.tmp 39), (some (35, false)), false⟩,
    ⟨(some 41), .load 1 false (.tmp 40), (some (35, false)), false⟩,
    ⟨(some 42), .bi .len [38].toArray 3 [(.tmp 41)], (some (35, false)), false⟩,
    ⟨(some 43), .bin .gtr 3 (.tmp 42) (.const (.int .i64 40)), (some (35, false)), false⟩,
    ⟨(some 44), .pick (.tmp 35) (.const (.bool true)) (.tmp 43), none, false⟩]
def ac46_L1 : AC :=
  .seq (.seq (.region false [⟨(some 20), .move (.tmp 3), none, false⟩,
          ⟨(some 21), .faddr 2 1 false (.tmp 1), none, false⟩,
          ⟨(some 22), .load 1 false (.tmp 21), none, false⟩,
          ⟨(some 23), .bi .len [79].toArray 3 [(.tmp 22)], none, false⟩,
          ⟨(some 24), .bin .lss 3 (.tmp 20) (.tmp 23), none, false⟩])
      (.cond (.tmp 24)
        (.skip)
        (.exit 0)))
    (.seq (.block 1 (.seq (.region false (⟨(some 27), .faddr 2 1 false (.tmp 1), none, false⟩ :: ⟨(some 28), .load 1 false (.tmp 27), none, false⟩ :: ⟨(some 29), .move (.tmp 3), none, false⟩ :: ⟨(some 30), .iaddr 7 (.tmp 28) (.tmp 29), none, false⟩ :: ⟨(some 31), .faddr 5 1 false (.tmp 30), none, false⟩ :: ⟨(some 32), .load 1 false (.tmp 31), none, false⟩ :: ⟨(some 33), .bi .len [38].toArray 3 [(.tmp 32)], none, false⟩ :: ⟨(some 34), .bin .gtr 3 (.tmp 33) (.const (.int .i64 40)), none, false⟩ :: ⟨(some 35), .move (.tmp 34), none, false⟩ :: (ac46_G3 ++ [])))
          (.cond (.tmp 44)
            (.seq (.region false [⟨(some 2), .move (.const (.bool false)), none, false⟩])
              (.ret))
            (.skip))))
      (.region false [⟨(some 25), .move (.tmp 3), none, false⟩,
          ⟨(some 26), .bin .add 3 (.tmp 25) (.const (.int .i64 1)), none, false⟩,
          ⟨(some 3), .move (.tmp 26), none, false⟩]))
/-- patchbay/patchbaylaw17.body -/
def ac46 : AC :=
  .seq (.region false [⟨(some 1), .box false 81 (.tmp 0), none, false⟩,
        ⟨(some 2), .move (.const (.bool false)), none, false⟩])
    (.seq (.seq (.region false (⟨(some 4), .faddr 0 1 false (.tmp 1), none, false⟩ :: ⟨(some 5), .load 1 false (.tmp 4), none, false⟩ :: ⟨(some 6), .bi .len [9].toArray 3 [(.tmp 5)], none, false⟩ :: ⟨(some 7), .bin .gtr 3 (.tmp 6) (.const (.int .i64 40)), none, false⟩ :: ⟨(some 8), .move (.tmp 7), none, false⟩ :: (ac46_G1 ++ (⟨(some 14), .move (.tmp 13), none, false⟩ :: (ac46_G2 ++ [])))))
        (.cond (.tmp 19)
          (.seq (.region false [⟨(some 2), .move (.const (.bool false)), none, false⟩])
            (.ret))
          (.skip)))
      (.seq (.seq (.region false [⟨(some 3), .move (.const (.int .i64 0)), none, false⟩])
          (.block 0 (.loop ac46_L1)))
        (.seq (.region false [⟨(some 2), .move (.const (.bool true)), none, false⟩])
          (.ret))))
theorem text46 : FnText Try.prog 46 [] 45 1 ac46 [(2, none)] :=
  ⟨Try.call46, follows, Try.f46, _, Try.func46, rfl, rfl, by decide, by kernel_rfl, by kernel_rfl⟩

def ac13_G1 : List AOper :=
  [⟨(some 14), .faddr 1 1 false (.tmp 1), (some (13, false)), false⟩,
    ⟨(some 15), .load 1 false (.tmp 14), (some (13, false)), false⟩,
    ⟨(some 16), .bi .len [22].toArray 3 [(.tmp 15)], (some (13, false)), false⟩,
    ⟨(some 17), .bin .gtr 3 (.tmp 16) (.const (.int .i64 12)), (some (13, false)), false⟩,
    ⟨(some 18), .pick (.tmp 13) (.const (.bool true)) (.tmp 17), none, false⟩]
def ac13_G2 : List AOper :=
  [⟨(some 20), .faddr 2 1 false (.tmp 1), (some (19, false)), false⟩,
    ⟨(some 21), .load 1 false (.tmp 20), (some (19, false)), false⟩,
    ⟨(some 22), .call (.func 45) [(.tmp 21)], (some (19, false)), false⟩,
    ⟨(some 23), .un .not (.tmp 22), (some (19, false)), false⟩,
    ⟨(some 24), .pick (.tmp 19) (.const (.bool true)) (.tmp 23), none, false⟩]
def ac13_G3 : List AOper :=
  [⟨(some 26), .faddr 3 1 false (.tmp 1), (some (25, false)), false⟩,
    ⟨(some 27), .load 1 false (.tmp 26), (some (25, false)), false⟩,
    ⟨(some 28), .bi .len [24].toArray 3 [(.tmp 27)], (some (25, false)), false⟩,
    ⟨(some 29), .bin .gtr 3 (.tmp 28) (.const (.int .i64 8)), (some (25, false)), false⟩,
    ⟨(some 30), .pick (.tmp 25) (.const (.bool true)) (.tmp 29), none, false⟩]
def ac13_G4 : List AOper :=
  [⟨(some 32), .faddr 4 1 false (.tmp 1), (some (31, false)), false⟩,
    ⟨(some 33), .load 1 false (.tmp 32), (some (31, false)), false⟩,
    ⟨(some 34), .bi .len [25].toArray 3 [(.tmp 33)], (some (31, false)), false⟩,
    ⟨(some 35), .bin .gtr 3 (.tmp 34) (.const (.int .i64 20)), (some (31, false)), false⟩,
    ⟨(some 36), .pick (.tmp 31) (.const (.bool true)) (.tmp 35), none, false⟩]
def ac13_G5 : List AOper :=
  [⟨(some 38), .faddr 5 1 false (.tmp 1), (some (37, false)), false⟩,
    ⟨(some 39), .load 1 false (.tmp 38), (some (37, false)), false⟩,
    ⟨(some 40), .bi .len [26].toArray 3 [(.tmp 39)], (some (37, false)), false⟩,
    ⟨(some 41), .bin .gtr 3 (.tmp 40) (.const (.int .i64 16)), (some (37, false)), false⟩,
    ⟨(some 42), .pick (.tmp 37) (.const (.bool true)) (.tmp 41), none, false⟩]
def ac13_G6 : List AOper :=
  [⟨(some 44), .faddr 6 1 false (.tmp 1), (some (43, false)), false⟩,
    ⟨(some 45), .load 1 false (.tmp 44), (some (43, false)), false⟩,
    ⟨(some 46), .bi .len [27].toArray 3 [(.tmp 45)], (some (43, false)), false⟩,
    ⟨(some 47), .bin .gtr 3 (.tmp 46) (.const (.int .i64 16)), (some (43, false)), false⟩,
    ⟨(some 48), .pick (.tmp 43) (.const (.bool true)) (.tmp 47), none, false⟩]
def ac13_G7 : List AOper :=
  [⟨(some 50), .faddr 8 1 false (.tmp 1), (some (49, false)), false⟩,
    ⟨(some 51), .load 1 false (.tmp 50), (some (49, false)), false⟩,
    ⟨(some 52), .bi .len [29].toArray 3 [(.tmp 51)], (some (49, false)), false⟩,
    ⟨(some 53), .bin .gtr 3 (.tmp 52) (.const (.int .i64 16)), (some (49, false)), false⟩,
    ⟨(some 54), .pick (.tmp 49) (.const (.bool true)) (.tmp 53), none, false⟩]
def ac13_G8 : List AOper :=
  [⟨(some 71), .faddr 1 1 false (.tmp 1), (some (70, false)), false⟩,
    ⟨(some 72), .load 1 false (.tmp 71), (some (70, false)), false⟩,
    ⟨(some 73), .move (.tmp 3), (some (70, false)), false⟩,
    ⟨(some 74), .iaddr 2 (.tmp 72) (.tmp 73), (some (70, false)), false⟩,
    ⟨(some 75), .faddr 1 1 false (.tmp 74), (some (70, false)), false⟩,
    ⟨(some 76), .load 1 false (.tmp 75), (some (70, false)), false⟩,
    ⟨(some 77), .call (.func 45) [(.tmp 76)], (some (70, false)), false⟩,
    ⟨(some 78), .un .not (.tmp 77), (some (70, false)), false⟩,
    ⟨(some 79), .pick (.tmp 70) (.const (.bool true)) (.tmp 78), none, false⟩]
def ac13_L1 : AC :=
  .seq (.seq (.region false [⟨(some 55), .move (.tmp 3), none, false⟩,
          ⟨(some 56), .faddr 1 1 false (.tmp 1), none, false⟩,
          ⟨(some 57), .load 1 false (.tmp 56), none, false⟩,
          ⟨(some 58), .bi .len [22].toArray 3 [(.tmp 57)], none, false⟩,
          ⟨(some 59), .bin .lss 3 (.tmp 55) (.tmp 58), none, false⟩])
      (.cond (.tmp 59)
        (.skip)
        (.exit 0)))
    (.seq (.block 1 (.seq (.region false (⟨(some 62), .faddr 1 1 false (.tmp 1), none, false⟩ :: ⟨(some 63), .load 1 false (.tmp 62), none, false⟩ :: ⟨(some 64), .move (.tmp 3), none, false⟩ :: ⟨(some 65), .iaddr 2 (.tmp 63) (.tmp 64), none, false⟩ :: ⟨(some 66), .faddr 0 1 false (.tmp 65), none, false⟩ :: ⟨(some 67), .load 1 false (.tmp 66), none, false⟩ :: ⟨(some 68), .bi .len [9].toArray 3 [(.tmp 67)], none, false⟩ :: ⟨(some 69), .bin .gtr 3 (.tmp 68) (.const (.int .i64 40)), none, false⟩ :: ⟨(some 70), .move (.tmp 69), none, false⟩ :: (ac13_G8 ++ [])))
          (.cond (.tmp 79)
            (.seq (.region false [⟨(some 2), .move (.const (.bool false)), none, false⟩])
              (.ret))
            (.skip))))
      (.region false [⟨(some 60), .move (.tmp 3), none, false⟩,
          ⟨(some 61), .bin .add 3 (.tmp 60) (.const (.int .i64 1)), none, false⟩,
          ⟨(some 3), .move (.tmp 61), none, false⟩]))
def ac13_L2 : AC :=
  .seq (.seq (.region false [⟨(some 80), .move (.tmp 4), none, false⟩,
          ⟨(some 81), .faddr 3 1 false (.tmp 1), none, false⟩,
          ⟨(some 82), .load 1 false (.tmp 81), none, false⟩,
          ⟨(some 83), .bi .len [24].toArray 3 [(.tmp 82)], none, false⟩,
          ⟨(some 84), .bin .lss 3 (.tmp 80) (.tmp 83), none, false⟩])
      (.cond (.tmp 84)
        (.skip)
        (.exit 2)))
    (.seq (.block 3 (.seq (.region false [⟨(some 87), .faddr 3 1 false (.tmp 1), none, false⟩,
              ⟨(some 88), .load 1 false (.tmp 87), none, false⟩,
              ⟨(some 89), .move (.tmp 4), none, false⟩,
              ⟨(some 90), .iaddr 3 (.tmp 88) (.tmp 89), none, false⟩,
              ⟨(some 91), .faddr 0 1 false (.tmp 90), none, false⟩,
              ⟨(some 92), .load 1 false (.tmp 91), none, false⟩,
              ⟨(some 93), .bi .len [9].toArray 3 [(.tmp 92)], none, false⟩,
              ⟨(some 94), .bin .gtr 3 (.tmp 93) (.const (.int .i64 40)), none, false⟩])
          (.cond (.tmp 94)
            (.seq (.region false [⟨(some 2), .move (.const (.bool false)), none, false⟩])
              (.ret))
            (.skip))))
      (.region false [⟨(some 85), .move (.tmp 4), none, false⟩,
          ⟨(some 86), .bin .add 3 (.tmp 85) (.const (.int .i64 1)), none, false⟩,
          ⟨(some 4), .move (.tmp 86), none, false⟩]))
def ac13_L3 : AC :=
  .seq (.seq (.region false [⟨(some 95), .move (.tmp 5), none, false⟩,
          ⟨(some 96), .faddr 4 1 false (.tmp 1), none, false⟩,
          ⟨(some 97), .load 1 false (.tmp 96), none, false⟩,
          ⟨(some 98), .bi .len [25].toArray 3 [(.tmp 97)], none, false⟩,
          ⟨(some 99), .bin .lss 3 (.tmp 95) (.tmp 98), none, false⟩])
      (.cond (.tmp 99)
        (.skip)
        (.exit 4)))
    (.seq (.block 5 (.seq (.region false [⟨(some 102), .faddr 4 1 false (.tmp 1), none, false⟩,
              ⟨(some 103), .load 1 false (.tmp 102), none, false⟩,
              ⟨(some 104), .move (.tmp 5), none, false⟩,
              ⟨(some 105), .iaddr 3 (.tmp 103) (.tmp 104), none, false⟩,
              ⟨(some 106), .load 3 true (.tmp 105), none, false⟩,
              ⟨(some 107), .call (.func 46) [(.tmp 106)], none, false⟩,
              ⟨(some 108), .un .not (.tmp 107), none, false⟩])
          (.cond (.tmp 108)
            (.seq (.region false [⟨(some 2), .move (.const (.bool false)), none, false⟩])
              (.ret))
            (.skip))))
      (.region false [⟨(some 100), .move (.tmp 5), none, false⟩,
          ⟨(some 101), .bin .add 3 (.tmp 100) (.const (.int .i64 1)), none, false⟩,
          ⟨(some 5), .move (.tmp 101), none, false⟩]))
def ac13_G9 : List AOper :=
  [⟨(some 126), .faddr 1 1 false (.tmp 7), (some (125, false)), false⟩,
    ⟨(some 127), .load 1 false (.tmp 126), (some (125, false)), false⟩,
    ⟨(some 128), .bi .len [82].toArray 3 [(.tmp 127)], (some (125, false)), false⟩,
    ⟨(some 129), .bin .gtr 3 (.tmp 128) (.const (.int .i64 10)), (some (125, false)), false⟩,
    ⟨(some 130), .pick (.tmp 125) (.const (.bool true)) (.tmp 129), none, false⟩]
def ac13_G10 : List AOper :=
  [⟨(some 132), .faddr 2 1 false (.tmp 7), (some (131, false)), false⟩,
    ⟨(some 133), .load 1 false (.tmp 132), (some (131, false)), false⟩,
    ⟨(some 134), .bi .len [29].toArray 3 [(.tmp 133)], (some (131, false)), false⟩,
    ⟨(some 135), .bin .gtr 3 (.tmp 134) (.const (.int .i64 24)), (some (131, false)), false⟩,
    ⟨(some 136), .pick (.tmp 131) (.const (.bool true)) (.tmp 135), none, false⟩]
def ac13_G11 : List AOper :=
  [⟨(some 138), .faddr 3 2 true (.tmp 7), (some (137, false)), false⟩,
    ⟨(some 139), .faddr 1 1 false (.tmp 138), (some (137, false)), false⟩,
    ⟨(some 140), .load 1 false (.tmp 139), (some (137, false)), false⟩,
    ⟨(some 141), .bi .len [83].toArray 3 [(.tmp 140)], (some (137, false)), false⟩,
    ⟨(some 142), .bin .gtr 3 (.tmp 141) (.const (.int .i64 10)), (some (137, false)), false⟩,
    ⟨(some 143), .pick (.tmp 137) (.const (.bool true)) (.tmp 142), none, false⟩]
def ac13_L4 : AC :=
  .seq (.seq (.region false [⟨(some 109), .move (.tmp 6), none, false⟩,
          ⟨(some 110), .faddr 5 1 false (.tmp 1), none, false⟩,
          ⟨(some 111), .load 1 false (.tmp 110), none, false⟩,
          ⟨(some 112), .bi .len [26].toArray 3 [(.tmp 111)], none, false⟩,
          ⟨(some 113), .bin .lss 3 (.tmp 109) (.tmp 112), none, false⟩])
      (.cond (.tmp 113)
        (.skip)
        (.exit 6)))
    (.seq (.block 7 (.seq (.region false [⟨(some 116), .faddr 5 1 false (.tmp 1), none, false⟩,
              ⟨(some 117), .load 1 false (.tmp 116), none, false⟩,
              ⟨(some 118), .move (.tmp 6), none, false⟩,
              ⟨(some 119), .iaddr 6 (.tmp 117) (.tmp 118), none, false⟩,
              ⟨(some 120), .load 6 true (.tmp 119), none, false⟩,
              ⟨(some 7), .alloc true 87 (.agg [(.string ⟨[].toArray⟩), (.slice none 0 0), (.slice none 0 0), (.int .i64 0), (.slice none 0 0), (.int .i64 0)].toArray), none, false⟩,
              ⟨none, .store 6 (.tmp 7) (.tmp 120), none, false⟩])
          (.seq (.region false (⟨(some 121), .faddr 0 1 false (.tmp 7), none, false⟩ :: ⟨(some 122), .load 1 false (.tmp 121), none, false⟩ :: ⟨(some 123), .bi .len [9].toArray 3 [(.tmp 122)], none, false⟩ :: ⟨(some 124), .bin .gtr 3 (.tmp 123) (.const (.int .i64 40)), none, false⟩ :: ⟨(some 125), .move (.tmp 124), none, false⟩ :: (ac13_G9 ++ (⟨(some 131), .move (.tmp 130), none, false⟩ :: (ac13_G10 ++ (⟨(some 137), .move (.tmp 136), none, false⟩ :: (ac13_G11 ++ [])))))))
            (.cond (.tmp 143)
              (.seq (.region false [⟨(some 2), .move (.const (.bool false)), none, false⟩])
                (.ret))
              (.skip)))))
      (.region false [⟨(some 114), .move (.tmp 6), none, false⟩,
          ⟨(some 115), .bin .add 3 (.tmp 114) (.const (.int .i64 1)), none, false⟩,
          ⟨(some 6), .move (.tmp 115), none, false⟩]))
def ac13_G12 : List AOper :=
  [⟨(some 160), .faddr 6 1 false (.tmp 1), (some (159, false)), false⟩,
    ⟨(some 161), .load 1 false (.tmp 160), (some (159, false)), false⟩,
    ⟨(some 162), .move (.tmp 8), (some (159, false)), false⟩,
    ⟨(some 163), .iaddr 7 (.tmp 161) (.tmp 162), (some (159, false)), false⟩,
    ⟨(some 164), .faddr 1 1 false (.tmp 163), (some (159, false)), false⟩,
    ⟨(some 165), .load 1 false (.tmp 164), (some (159, false)), false⟩,
    ⟨(some 166), .bi .len [29].toArray 3 [(.tmp 165)], (some (159, false)), false⟩,
    ⟨(some 167), .bin .gtr 3 (.tmp 166) (.const (.int .i64 8)), (some (159, false)), false⟩,
    ⟨(some 168), .pick (.tmp 159) (.const (.bool true)) (.tmp 167), none, false⟩]
def ac13_G13 : List AOper :=
  [⟨(some 170), .faddr 6 1 false (.tmp 1), (some (169, false)), false⟩,
    ⟨(some 171), .load 1 false (.tmp 170), (some (169, false)), false⟩,
    ⟨(some 172), .move (.tmp 8), (some (169, false)), false⟩,
    ⟨(some 173), .iaddr 7 (.tmp 171) (.tmp 172), (some (169, false)), false⟩,
    ⟨(some 174), .faddr 5 1 false (.tmp 173), (some (169, false)), false⟩,
    ⟨(some 175), .load 1 false (.tmp 174), (some (169, false)), false⟩,
    ⟨(some 176), .bi .len [90].toArray 3 [(.tmp 175)], (some (169, false)), false⟩,
    ⟨(some 177), .bin .gtr 3 (.tmp 176) (.const (.int .i64 16)), (some (169, false)), false⟩,
    ⟨(some 178), .pick (.tmp 169) (.const (.bool true)) (.tmp 177), none, false⟩]
def ac13_L5 : AC :=
  .seq (.seq (.region false [⟨(some 144), .move (.tmp 8), none, false⟩,
          ⟨(some 145), .faddr 6 1 false (.tmp 1), none, false⟩,
          ⟨(some 146), .load 1 false (.tmp 145), none, false⟩,
          ⟨(some 147), .bi .len [27].toArray 3 [(.tmp 146)], none, false⟩,
          ⟨(some 148), .bin .lss 3 (.tmp 144) (.tmp 147), none, false⟩])
      (.cond (.tmp 148)
        (.skip)
        (.exit 8)))
    (.seq (.block 9 (.seq (.region false (⟨(some 151), .faddr 6 1 false (.tmp 1), none, false⟩ :: ⟨(some 152), .load 1 false (.tmp 151), none, false⟩ :: ⟨(some 153), .move (.tmp 8), none, false⟩ :: ⟨(some 154), .iaddr 7 (.tmp 152) (.tmp 153), none, false⟩ :: ⟨(some 155), .faddr 0 1 false (.tmp 154), none, false⟩ :: ⟨(some 156), .load 1 false (.tmp 155), none, false⟩ :: ⟨(some 157), .bi .len [9].toArray 3 [(.tmp 156)], none, false⟩ :: ⟨(some 158), .bin .gtr 3 (.tmp 157) (.const (.int .i64 40)), none, false⟩ :: ⟨(some 159), .move (.tmp 158), none, false⟩ :: (ac13_G12 ++ (⟨(some 169), .move (.tmp 168), none, false⟩ :: (ac13_G13 ++ [])))))
          (.cond (.tmp 178)
            (.seq (.region false [⟨(some 2), .move (.const (.bool false)), none, false⟩])
              (.ret))
            (.skip))))
      (.region false [⟨(some 149), .move (.tmp 8), none, false⟩,
          ⟨(some 150), .bin .add 3 (.tmp 149) (.const (.int .i64 1)), none, false⟩,
          ⟨(some 8), .move (.tmp 150), none, false⟩]))
/-- patchbay/patchbaylaw17.Small -/
def ac13 : AC :=
  .seq (.region false [⟨(some 1), .box false 31 (.tmp 0), none, false⟩,
        ⟨(some 2), .move (.const (.bool false)), none, false⟩])
    (.seq (.seq (.region false (⟨(some 9), .faddr 0 1 false (.tmp 1), none, false⟩ :: ⟨(some 10), .load 1 false (.tmp 9), none, false⟩ :: ⟨(some 11), .bi .len [9].toArray 3 [(.tmp 10)], none, false⟩ :: ⟨(some 12), .bin .gtr 3 (.tmp 11) (.const (.int .i64 40)), none, false⟩ :: ⟨(some 13), .move (.tmp 12), none, false⟩ :: (ac13_G1 ++ (⟨(some 19), .move (.tmp 18), none, false⟩ :: (ac13_G2 ++ (⟨(some 25), .move (.tmp 24), none, false⟩ :: (ac13_G3 ++ (⟨(some 31), .move (.tmp 30), none, false⟩ :: (ac13_G4 ++ (⟨(some 37), .move (.tmp 36), none, false⟩ :: (ac13_G5 ++ (⟨(some 43), .move (.tmp 42), none, false⟩ :: (ac13_G6 ++ (⟨(some 49), .move (.tmp 48), none, false⟩ :: (ac13_G7 ++ [])))))))))))))))
        (.cond (.tmp 54)
          (.seq (.region false [⟨(some 2), .move (.const (.bool false)), none, false⟩])
            (.ret))
          (.skip)))
      (.seq (.seq (.region false [⟨(some 3), .move (.const (.int .i64 0)), none, false⟩])
          (.block 0 (.loop ac13_L1)))
        (.seq (.seq (.region false [⟨(some 4), .move (.const (.int .i64 0)), none, false⟩])
            (.block 2 (.loop ac13_L2)))
          (.seq (.seq (.region false [⟨(some 5), .move (.const (.int .i64 0)), none, false⟩])
              (.block 4 (.loop ac13_L3)))
            (.seq (.seq (.region false [⟨(some 6), .move (.const (.int .i64 0)), none, false⟩])
                (.block 6 (.loop ac13_L4)))
              (.seq (.seq (.region false [⟨(some 8), .move (.const (.int .i64 0)), none, false⟩])
                  (.block 8 (.loop ac13_L5)))
                (.seq (.region false [⟨(some 2), .move (.const (.bool true)), none, false⟩])
                  (.ret))))))))
theorem text13 : FnText Try.prog 13 [7] 179 1 ac13 [(2, none)] :=
  ⟨Try.call13, follows, Try.f13, _, Try.func13, rfl, rfl, by decide, by kernel_rfl, by kernel_rfl⟩

def ac47_G1 : List AOper :=
  [⟨(some 14), .move (.tmp 7), (some (13, true)), false⟩,
    ⟨(some 15), .move (.tmp 1), (some (13, true)), false⟩,
    ⟨(some 16), .bin .leq 3 (.tmp 14) (.tmp 15), (some (13, true)), false⟩,
    ⟨(some 17), .pick (.tmp 13) (.tmp 16) (.const (.bool false)), none, false⟩]
def ac47_G2 : List AOper :=
  [⟨(some 30), .move (.tmp 2), (some (29, false)), false⟩,
    ⟨(some 31), .bin .eql 3 (.tmp 30) (.const (.int .i64 0)), (some (29, false)), false⟩,
    ⟨(some 32), .pick (.tmp 29) (.const (.bool true)) (.tmp 31), none, false⟩]
def ac47_L1 : AC :=
  .seq (.seq (.region false (⟨(some 9), .move (.tmp 8), none, false⟩ :: ⟨(some 10), .move (.tmp 0), none, false⟩ :: ⟨(some 11), .bi .len [28].toArray 3 [(.tmp 10)], none, false⟩ :: ⟨(some 12), .bin .lss 3 (.tmp 9) (.tmp 11), none, false⟩ :: ⟨(some 13), .move (.tmp 12), none, false⟩ :: (ac47_G1 ++ [])))
      (.cond (.tmp 17)
        (.skip)
        (.exit 0)))
    (.seq (.block 1 (.seq (.region false [⟨(some 20), .move (.tmp 7), none, false⟩,
              ⟨(some 21), .bin .add 3 (.tmp 20) (.const (.int .i64 1)), none, false⟩,
              ⟨(some 7), .move (.tmp 21), none, false⟩])
          (.seq (.seq (.region false (⟨(some 22), .move (.tmp 0), none, false⟩ :: ⟨(some 23), .move (.tmp 8), none, false⟩ :: ⟨(some 24), .iaddr 5 (.tmp 22) (.tmp 23), none, false⟩ :: ⟨(some 25), .faddr 2 1 false (.tmp 24), none, false⟩ :: ⟨(some 26), .load 1 false (.tmp 25), none, false⟩ :: ⟨(some 27), .bi .len [38].toArray 3 [(.tmp 26)], none, false⟩ :: ⟨(some 28), .bin .gtr 3 (.tmp 27) (.const (.int .i64 40)), none, false⟩ :: ⟨(some 29), .move (.tmp 28), none, false⟩ :: (ac47_G2 ++ [])))
              (.cond (.tmp 32)
                (.seq (.region false [⟨(some 33), .move (.tmp 1), none, false⟩,
                      ⟨(some 34), .bin .add 3 (.tmp 33) (.const (.int .i64 1)), none, false⟩,
                      ⟨(some 6), .move (.tmp 34), none, false⟩])
                  (.ret))
                (.skip)))
            (.seq (.region false [⟨(some 35), .move (.tmp 7), none, false⟩,
                  ⟨(some 36), .move (.tmp 0), none, false⟩,
                  ⟨(some 37), .move (.tmp 8), none, false⟩,
                  ⟨(some 38), .iaddr 5 (.tmp 36) (.tmp 37), none, false⟩,
                  ⟨(some 39), .faddr 3 1 false (.tmp 38), none, false⟩,
                  ⟨(some 40), .load 1 false (.tmp 39), none, false⟩,
                  ⟨(some 41), .move (.tmp 1), none, false⟩,
                  ⟨(some 42), .move (.tmp 7), none, false⟩,
                  ⟨(some 43), .bin .sub 3 (.tmp 41) (.tmp 42), none, false⟩,
                  ⟨(some 44), .move (.tmp 2), none, false⟩,
                  ⟨(some 45), .bin .sub 3 (.tmp 44) (.const (.int .i64 1)), none, false⟩,
                  ⟨(some 46), .call (.func 47) [(.tmp 40), (.tmp 43), (.tmp 45)], none, false⟩,
                  ⟨(some 47), .bin .add 3 (.tmp 35) (.tmp 46), none, false⟩,
                  ⟨(some 7), .move (.tmp 47), none, false⟩])
              (.seq (.region false [⟨(some 48), .move (.tmp 7), none, false⟩,
                    ⟨(some 49), .move (.tmp 1), none, false⟩,
                    ⟨(some 50), .bin .leq 3 (.tmp 48) (.tmp 49), none, false⟩])
                (.cond (.tmp 50)
                  (.region false [⟨(some 51), .move (.tmp 7), none, false⟩,
                      ⟨(some 52), .move (.tmp 0), none, false⟩,
                      ⟨(some 53), .move (.tmp 8), none, false⟩,
                      ⟨(some 54), .iaddr 5 (.tmp 52) (.tmp 53), none, false⟩,
                      ⟨(some 55), .faddr 4 1 false (.tmp 54), none, false⟩,
                      ⟨(some 56), .load 1 false (.tmp 55), none, false⟩,
                      ⟨(some 57), .move (.tmp 1), none, false⟩,
                      ⟨(some 58), .move (.tmp 7), none, false⟩,
                      ⟨(some 59), .bin .sub 3 (.tmp 57) (.tmp 58), none, false⟩,
                      ⟨(some 60), .move (.tmp 2), none, false⟩,
                      ⟨(some 61), .bin .sub 3 (.tmp 60) (.const (.int .i64 1)), none, false⟩,
                      ⟨(some 62), .call (.func 47) [(.tmp 56), (.tmp 59), (.tmp 61)], none, false⟩,
                      ⟨(some 63), .bin .add 3 (.tmp 51) (.tmp 62), none, false⟩,
                      ⟨(some 7), .move (.tmp 63), none, false⟩])
                  (.skip)))))))
      (.region false [⟨(some 18), .move (.tmp 8), none, false⟩,
          ⟨(some 19), .bin .add 3 (.tmp 18) (.const (.int .i64 1)), none, false⟩,
          ⟨(some 8), .move (.tmp 19), none, false⟩]))
/-- patchbay/patchbaylaw20.size -/
def ac47 : AC :=
  .seq (.region false [⟨(some 6), .move (.const (.int .i64 0)), none, false⟩])
    (.seq (.region false [⟨(some 7), .move (.const (.int .i64 0)), none, false⟩])
      (.seq (.seq (.region false [⟨(some 8), .move (.const (.int .i64 0)), none, false⟩])
          (.block 0 (.loop ac47_L1)))
        (.seq (.region false [⟨(some 64), .move (.tmp 7), none, false⟩,
              ⟨(some 6), .move (.tmp 64), none, false⟩])
          (.ret))))
theorem text47 : FnText Try.prog 47 [] 65 3 ac47 [(6, none)] :=
  ⟨Try.call47, follows, Try.f47, _, Try.func47, rfl, rfl, by decide, by kernel_rfl, by kernel_rfl⟩


/-- patchbay/patchbaylaw20.Small -/
def ac14 : AC :=
  .seq (.region false [⟨(some 4), .move (.const (.bool false)), none, false⟩])
    (.seq (.region false [⟨(some 5), .move (.tmp 0), none, false⟩,
          ⟨(some 6), .move (.tmp 1), none, false⟩,
          ⟨(some 7), .call (.func 47) [(.tmp 5), (.tmp 6), (.const (.int .i64 12))], none, false⟩,
          ⟨(some 8), .move (.tmp 1), none, false⟩,
          ⟨(some 9), .bin .leq 3 (.tmp 7) (.tmp 8), none, false⟩,
          ⟨(some 4), .move (.tmp 9), none, false⟩])
      (.ret))
theorem text14 : FnText Try.prog 14 [] 10 2 ac14 [(4, none)] :=
  ⟨Try.call14, follows, Try.f14, _, Try.func14, rfl, rfl, by decide, by kernel_rfl, by kernel_rfl⟩

def ac15_G1 : List AOper :=
  [⟨(some 28), .move (.tmp 1), (some (27, true)), false⟩,
    ⟨(some 29), .call (.func 22) [(.tmp 28)], (some (27, true)), false⟩,
    ⟨(some 30), .bin .eql 3 (.tmp 29) (.const (.int .i64 2)), (some (27, true)), false⟩,
    ⟨(some 31), .pick (.tmp 27) (.tmp 30) (.const (.bool false)), none, false⟩]
def ac15_G2 : List AOper :=
  [⟨(some 33), .faddr 1 1 false (.tmp 2), (some (32, true)), false⟩,
    ⟨(some 34), .load 1 false (.tmp 33), (some (32, true)), false⟩,
    ⟨(some 35), .bin .eql 3 (.tmp 34) (.const (.int .i64 7)), (some (32, true)), false⟩,
    ⟨(some 36), .pick (.tmp 32) (.tmp 35) (.const (.bool false)), none, false⟩]
def ac15_G3 : List AOper :=
  [⟨(some 38), .move (.tmp 3), (some (37, true)), false⟩,
    ⟨(some 39), .pick (.tmp 37) (.tmp 38) (.const (.bool false)), none, false⟩]
def ac15_G4 : List AOper :=
  [⟨(some 41), .move (.tmp 1), (some (40, true)), false⟩,
    ⟨(some 42), .call (.func 25) [(.tmp 41)], (some (40, true)), false⟩,
    ⟨(some 43), .bslice false 3 1 false [(.const (.int .i64 4)), (.const (.int .i64 2)), (.const (.int .i64 7))], (some (40, true)), false⟩,
    ⟨(some 44), .call (.func 24) [(.tmp 42), (.tmp 43)], (some (40, true)), false⟩,
    ⟨(some 45), .pick (.tmp 40) (.tmp 44) (.const (.bool false)), none, false⟩]
def ac15_G5 : List AOper :=
  [⟨(some 47), .move (.tmp 5), (some (46, true)), false⟩,
    ⟨(some 48), .bin .neq 35 (.tmp 47) (.const (.int .i64 0)), (some (46, true)), false⟩,
    ⟨(some 49), .pick (.tmp 46) (.tmp 48) (.const (.bool false)), none, false⟩]
/-- patchbay/patchbaylaw20.works -/
def ac15 : AC :=
  .seq (.region false [⟨(some 0), .move (.const (.bool false)), none, false⟩])
    (.seq (.region false [⟨(some 6), .build [(.int .i64 0), (.int .i64 0), (.slice none 0 0), (.slice none 0 0), (.slice none 0 0)] [(0, 1, (.const (.int .i64 1))), (1, 1, (.const (.int .i64 4)))], none, false⟩,
          ⟨(some 7), .bslice false 40 5 false [(.tmp 6)], none, false⟩,
          ⟨(some 8), .build [(.int .i64 0), (.int .i64 0), (.slice none 0 0), (.slice none 0 0), (.slice none 0 0)] [(0, 1, (.const (.int .i64 3))), (1, 1, (.const (.int .i64 2)))], none, false⟩,
          ⟨(some 9), .build [(.int .i64 0), (.int .i64 0), (.slice none 0 0), (.slice none 0 0), (.slice none 0 0)] [(0, 1, (.const (.int .i64 1))), (1, 1, (.const (.int .i64 7)))], none, false⟩,
          ⟨(some 10), .bslice false 40 5 false [(.tmp 8), (.tmp 9)], none, false⟩,
          ⟨(some 11), .build [(.int .i64 0), (.int .i64 0), (.slice none 0 0), (.slice none 0 0), (.slice none 0 0)] [(0, 1, (.const (.int .i64 2))), (3, 1, (.tmp 7)), (4, 1, (.tmp 10))], none, false⟩,
          ⟨(some 12), .bslice false 40 5 false [(.tmp 11)], none, false⟩,
          ⟨(some 1), .move (.tmp 12), none, false⟩])
      (.seq (.region false [⟨(some 14), .move (.tmp 1), none, false⟩,
            ⟨(some 15), .call (.func 18) [(.tmp 14), (.const (.int .i64 3))], none, false⟩,
            ⟨(some 13), .move (.tmp 15), none, false⟩,
            ⟨(some 16), .extract (.tmp 13) 0, none, false⟩,
            ⟨(some 17), .extract (.tmp 13) 1, none, false⟩,
            ⟨(some 2), .alloc true 40 (.agg [(.int .i64 0), (.int .i64 0), (.slice none 0 0), (.slice none 0 0), (.slice none 0 0)].toArray), none, false⟩,
            ⟨none, .store 5 (.tmp 2) (.tmp 16), none, false⟩,
            ⟨(some 3), .move (.tmp 17), none, false⟩])
        (.seq (.region false [⟨(some 19), .move (.tmp 1), none, false⟩,
              ⟨(some 20), .build [(.string ⟨[].toArray⟩), (.slice none 0 0), (.slice none 0 0), (.slice none 0 0), (.slice none 0 0), (.slice none 0 0), (.slice none 0 0), (.slice none 0 0), (.slice none 0 0)] [(7, 1, (.tmp 19))], none, false⟩,
              ⟨(some 21), .call (.func 16) [(.tmp 20)], none, false⟩,
              ⟨(some 18), .move (.tmp 21), none, false⟩,
              ⟨(some 22), .extract (.tmp 18) 0, none, false⟩,
              ⟨(some 23), .extract (.tmp 18) 1, none, false⟩,
              ⟨(some 4), .move (.tmp 22), none, false⟩,
              ⟨(some 5), .move (.tmp 23), none, false⟩])
          (.seq (.region false (⟨(some 24), .move (.tmp 1), none, false⟩ :: ⟨(some 25), .call (.func 20) [(.tmp 24)], none, false⟩ :: ⟨(some 26), .bin .eql 3 (.tmp 25) (.const (.int .i64 4)), none, false⟩ :: ⟨(some 27), .move (.tmp 26), none, false⟩ :: (ac15_G1 ++ (⟨(some 32), .move (.tmp 31), none, false⟩ :: (ac15_G2 ++ (⟨(some 37), .move (.tmp 36), none, false⟩ :: (ac15_G3 ++ (⟨(some 40), .move (.tmp 39), none, false⟩ :: (ac15_G4 ++ (⟨(some 46), .move (.tmp 45), none, false⟩ :: (ac15_G5 ++ [⟨(some 0), .move (.tmp 49), none, false⟩])))))))))))
            (.ret)))))
theorem text15 : FnText Try.prog 15 [2] 50 0 ac15 [(0, none)] :=
  ⟨Try.call15, follows, Try.f15, _, Try.func15, rfl, rfl, by decide, by kernel_rfl, by kernel_rfl⟩


/-- patchbay/control.Count$1 -/
def ac56 : AC :=
  .seq (.region false [⟨(some 2), .box false 40 (.tmp 0), none, false⟩,
        ⟨(some 3), .move (.const (.bool false)), none, false⟩])
    (.seq (.region false [⟨(some 4), .load 1 false (.tmp 1), none, false⟩,
          ⟨(some 5), .bin .add 3 (.tmp 4) (.const (.int .i64 1)), none, false⟩,
          ⟨none, .store 1 (.tmp 1) (.tmp 5), none, false⟩])
      (.seq (.region false [⟨(some 3), .move (.const (.bool true)), none, false⟩])
        (.ret)))
theorem text56 : FnText Try.prog 56 [] 6 2 ac56 [(3, none)] :=
  ⟨Try.call56, follows, Try.f56, _, Try.func56, rfl, rfl, by decide, by kernel_rfl, by kernel_rfl⟩

def ac48_G1 : List AOper :=
  [⟨(some 18), .faddr 3 1 false (.tmp 6), (some (17, false)), false⟩,
    ⟨(some 19), .load 1 false (.tmp 18), (some (17, false)), false⟩,
    ⟨(some 20), .move (.tmp 1), (some (17, false)), false⟩,
    ⟨(some 21), .call (.func 48) [(.tmp 19), (.tmp 20)], (some (17, false)), false⟩,
    ⟨(some 22), .un .not (.tmp 21), (some (17, false)), false⟩,
    ⟨(some 23), .pick (.tmp 17) (.const (.bool true)) (.tmp 22), none, false⟩]
def ac48_G2 : List AOper :=
  [⟨(some 25), .faddr 4 1 false (.tmp 6), (some (24, false)), false⟩,
    ⟨(some 26), .load 1 false (.tmp 25), (some (24, false)), false⟩,
    ⟨(some 27), .move (.tmp 1), (some (24, false)), false⟩,
    ⟨(some 28), .call (.func 48) [(.tmp 26), (.tmp 27)], (some (24, false)), false⟩,
    ⟨(some 29), .un .not (.tmp 28), (some (24, false)), false⟩,
    ⟨(some 30), .pick (.tmp 24) (.const (.bool true)) (.tmp 29), none, false⟩]
def ac48_L1 : AC :=
  .seq (.region false [⟨(some 10), .bin .lss 3 (.tmp 9) (.tmp 8), none, false⟩])
    (.seq (.cond (.tmp 10)
        (.skip)
        (.exit 0))
      (.seq (.block 1 (.seq (.region false [⟨(some 11), .iaddr 5 (.tmp 7) (.tmp 9), none, false⟩,
                ⟨(some 12), .load 5 true (.tmp 11), none, false⟩,
                ⟨(some 6), .alloc true 40 (.agg [(.int .i64 0), (.int .i64 0), (.slice none 0 0), (.slice none 0 0), (.slice none 0 0)].toArray), none, false⟩,
                ⟨none, .store 5 (.tmp 6) (.tmp 12), none, false⟩])
            (.seq (.region false (⟨(some 13), .move (.tmp 1), none, false⟩ :: ⟨(some 14), .load 5 true (.tmp 6), none, false⟩ :: ⟨(some 15), .call (.tmp 13) [(.tmp 14)], none, false⟩ :: ⟨(some 16), .un .not (.tmp 15), none, false⟩ :: ⟨(some 17), .move (.tmp 16), none, false⟩ :: (ac48_G1 ++ (⟨(some 24), .move (.tmp 23), none, false⟩ :: (ac48_G2 ++ [])))))
              (.cond (.tmp 30)
                (.seq (.region false [⟨(some 4), .move (.const (.bool false)), none, false⟩])
                  (.ret))
                (.skip)))))
        (.region false [⟨(some 31), .bin .add 3 (.tmp 9) (.const (.int .i64 1)), none, false⟩,
            ⟨(some 9), .move (.tmp 31), none, false⟩])))
/-- patchbay/control.preorder -/
def ac48 : AC :=
  .seq (.region false [⟨(some 4), .move (.const (.bool false)), none, false⟩])
    (.seq (.seq (.region false [⟨(some 7), .move (.tmp 0), none, false⟩,
            ⟨(some 8), .bi .len [28].toArray 3 [(.tmp 7)], none, false⟩,
            ⟨(some 9), .move (.const (.int .i64 0)), none, false⟩])
        (.block 0 (.loop ac48_L1)))
      (.seq (.region false [⟨(some 4), .move (.const (.bool true)), none, false⟩])
        (.ret)))
theorem text48 : FnText Try.prog 48 [6] 32 2 ac48 [(4, none)] :=
  ⟨Try.call48, follows, Try.f48, _, Try.func48, rfl, rfl, by decide, by kernel_rfl, by kernel_rfl⟩


/-- patchbay/control.Count -/
def ac20 : AC :=
  .seq (.region false [⟨(some 2), .move (.const (.int .i64 0)), none, false⟩])
    (.seq (.region false [⟨(some 3), .alloc true 3 (.int .i64 0), none, false⟩,
          ⟨none, .store 1 (.tmp 3) (.const (.int .i64 0)), none, false⟩])
      (.seq (.region false [⟨(some 4), .move (.tmp 0), none, false⟩,
            ⟨(some 5), .mkFunc (.func 56) [] [(.tmp 3)], none, false⟩,
            ⟨(some 6), .call (.func 48) [(.tmp 4), (.tmp 5)], none, false⟩])
        (.seq (.region false [⟨(some 7), .load 1 false (.tmp 3), none, false⟩,
              ⟨(some 2), .move (.tmp 7), none, false⟩])
          (.ret))))
theorem text20 : FnText Try.prog 20 [3] 8 1 ac20 [(2, none)] :=
  ⟨Try.call20, follows, Try.f20, _, Try.func20, rfl, rfl, by decide, by kernel_rfl, by kernel_rfl⟩

def ac22_L1 : AC :=
  .seq (.region false [⟨(some 12), .bin .lss 3 (.tmp 11) (.tmp 10), none, false⟩])
    (.seq (.cond (.tmp 12)
        (.skip)
        (.exit 0))
      (.seq (.block 1 (.seq (.region false [⟨(some 13), .iaddr 5 (.tmp 9) (.tmp 11), none, false⟩,
                ⟨(some 14), .load 5 true (.tmp 13), none, false⟩,
                ⟨(some 5), .alloc true 40 (.agg [(.int .i64 0), (.int .i64 0), (.slice none 0 0), (.slice none 0 0), (.slice none 0 0)].toArray), none, false⟩,
                ⟨none, .store 5 (.tmp 5) (.tmp 14), none, false⟩])
            (.region true [⟨(some 15), .move (.tmp 3), none, false⟩,
                ⟨(some 16), .faddr 3 1 false (.tmp 5), none, false⟩,
                ⟨(some 17), .load 1 false (.tmp 16), none, false⟩,
                ⟨(some 18), .call (.func 22) [(.tmp 17)], none, false⟩,
                ⟨(some 19), .faddr 4 1 false (.tmp 5), none, false⟩,
                ⟨(some 20), .load 1 false (.tmp 19), none, false⟩,
                ⟨(some 21), .call (.func 22) [(.tmp 20)], none, false⟩,
                ⟨(some 22), .bi .max [3, 3, 3].toArray 3 [(.tmp 15), (.tmp 18), (.tmp 21)], none, false⟩,
                ⟨(some 3), .move (.tmp 22), none, false⟩])))
        (.region false [⟨(some 23), .bin .add 3 (.tmp 11) (.const (.int .i64 1)), none, false⟩,
            ⟨(some 11), .move (.tmp 23), none, false⟩])))
/-- patchbay/control.Nesting -/
def ac22 : AC :=
  .seq (.region false [⟨(some 2), .move (.const (.int .i64 0)), none, false⟩])
    (.seq (.seq (.region false [⟨(some 6), .move (.tmp 0), none, false⟩,
            ⟨(some 7), .bi .len [28].toArray 3 [(.tmp 6)], none, false⟩,
            ⟨(some 8), .bin .eql 3 (.tmp 7) (.const (.int .i64 0)), none, false⟩])
        (.cond (.tmp 8)
          (.seq (.region false [⟨(some 2), .move (.const (.int .i64 0)), none, false⟩])
            (.ret))
          (.skip)))
      (.seq (.region false [⟨(some 3), .move (.const (.int .i64 0)), none, false⟩])
        (.seq (.seq (.region false [⟨(some 9), .move (.tmp 0), none, false⟩,
                ⟨(some 10), .bi .len [28].toArray 3 [(.tmp 9)], none, false⟩,
                ⟨(some 11), .move (.const (.int .i64 0)), none, false⟩])
            (.block 0 (.loop ac22_L1)))
          (.seq (.region false [⟨(some 24), .move (.tmp 3), none, false⟩,
                ⟨(some 25), .bin .add 3 (.tmp 24) (.const (.int .i64 1)), none, false⟩,
                ⟨(some 2), .move (.tmp 25), none, false⟩])
            (.ret)))))
theorem text22 : FnText Try.prog 22 [5] 26 1 ac22 [(2, none)] :=
  ⟨Try.call22, follows, Try.f22, _, Try.func22, rfl, rfl, by decide, by kernel_rfl, by kernel_rfl⟩


/-- patchbay/expr.arity -/
def ac86 : AC :=
  .seq (.region false [⟨(some 2), .move (.const (.int .i64 0)), none, false⟩])
    (.seq (.seq (.region false [⟨(some 3), .move (.tmp 0), none, false⟩])
        (.block 0 (.seq (.seq (.region false [⟨(some 5), .bin .eql 3 (.tmp 3) (.const (.int .i64 1)), none, false⟩,
                  ⟨(some 4), .move (.tmp 5), none, false⟩])
              (.cond (.tmp 4)
                (.skip)
                (.seq (.region false [⟨(some 6), .bin .eql 3 (.tmp 3) (.const (.int .i64 2)), none, false⟩,
                      ⟨(some 4), .move (.tmp 6), none, false⟩])
                  (.cond (.tmp 4)
                    (.skip)
                    (.seq (.region false [⟨(some 7), .bin .eql 3 (.tmp 3) (.const (.int .i64 3)), none, false⟩,
                          ⟨(some 4), .move (.tmp 7), none, false⟩])
                      (.cond (.tmp 4)
                        (.skip)
                        (.region false [⟨(some 8), .bin .eql 3 (.tmp 3) (.const (.int .i64 4)), none, false⟩,
                            ⟨(some 4), .move (.tmp 8), none, false⟩])))))))
            (.cond (.tmp 4)
              (.seq (.region false [⟨(some 2), .move (.const (.int .i64 0)), none, false⟩])
                (.ret))
              (.seq (.seq (.region false [⟨(some 10), .bin .eql 3 (.tmp 3) (.const (.int .i64 5)), none, false⟩,
                      ⟨(some 9), .move (.tmp 10), none, false⟩])
                  (.cond (.tmp 9)
                    (.skip)
                    (.seq (.region false [⟨(some 11), .bin .eql 3 (.tmp 3) (.const (.int .i64 6)), none, false⟩,
                          ⟨(some 9), .move (.tmp 11), none, false⟩])
                      (.cond (.tmp 9)
                        (.skip)
                        (.seq (.region false [⟨(some 12), .bin .eql 3 (.tmp 3) (.const (.int .i64 7)), none, false⟩,
                              ⟨(some 9), .move (.tmp 12), none, false⟩])
                          (.cond (.tmp 9)
                            (.skip)
                            (.region false [⟨(some 13), .bin .eql 3 (.tmp 3) (.const (.int .i64 8)), none, false⟩,
                                ⟨(some 9), .move (.tmp 13), none, false⟩])))))))
                (.cond (.tmp 9)
                  (.seq (.region false [⟨(some 2), .move (.const (.int .i64 1)), none, false⟩])
                    (.ret))
                  (.seq (.seq (.region false [⟨(some 15), .bin .eql 3 (.tmp 3) (.const (.int .i64 9)), none, false⟩,
                          ⟨(some 14), .move (.tmp 15), none, false⟩])
                      (.cond (.tmp 14)
                        (.skip)
                        (.seq (.region false [⟨(some 16), .bin .eql 3 (.tmp 3) (.const (.int .i64 10)), none, false⟩,
                              ⟨(some 14), .move (.tmp 16), none, false⟩])
                          (.cond (.tmp 14)
                            (.skip)
                            (.seq (.region false [⟨(some 17), .bin .eql 3 (.tmp 3) (.const (.int .i64 11)), none, false⟩,
                                  ⟨(some 14), .move (.tmp 17), none, false⟩])
                              (.cond (.tmp 14)
                                (.skip)
                                (.seq (.region false [⟨(some 18), .bin .eql 3 (.tmp 3) (.const (.int .i64 12)), none, false⟩,
                                      ⟨(some 14), .move (.tmp 18), none, false⟩])
                                  (.cond (.tmp 14)
                                    (.skip)
                                    (.seq (.region false [⟨(some 19), .bin .eql 3 (.tmp 3) (.const (.int .i64 13)), none, false⟩,
                                          ⟨(some 14), .move (.tmp 19), none, false⟩])
                                      (.cond (.tmp 14)
                                        (.skip)
                                        (.seq (.region false [⟨(some 20), .bin .eql 3 (.tmp 3) (.const (.int .i64 14)), none, false⟩,
                                              ⟨(some 14), .move (.tmp 20), none, false⟩])
                                          (.cond (.tmp 14)
                                            (.skip)
                                            (.seq (.region false [⟨(some 21), .bin .eql 3 (.tmp 3) (.const (.int .i64 15)), none, false⟩,
                                                  ⟨(some 14), .move (.tmp 21), none, false⟩])
                                              (.cond (.tmp 14)
                                                (.skip)
                                                (.region false [⟨(some 22), .bin .eql 3 (.tmp 3) (.const (.int .i64 16)), none, false⟩,
                                                    ⟨(some 14), .move (.tmp 22), none, false⟩])))))))))))))))
                    (.cond (.tmp 14)
                      (.seq (.region false [⟨(some 2), .move (.const (.int .i64 2)), none, false⟩])
                        (.ret))
                      (.seq (.region false [⟨(some 24), .bin .eql 3 (.tmp 3) (.const (.int .i64 17)), none, false⟩,
                            ⟨(some 23), .move (.tmp 24), none, false⟩])
                        (.cond (.tmp 23)
                          (.seq (.region false [⟨(some 2), .move (.const (.int .i64 3)), none, false⟩])
                            (.ret))
                          (.skip)))))))))))
      (.seq (.region false [⟨(some 2), .move (.const (.int .i64 (-1))), none, false⟩])
        (.ret)))
theorem text86 : FnText Try.prog 86 [] 25 1 ac86 [(2, none)] :=
  ⟨Try.call86, follows, Try.f86, _, Try.func86, rfl, rfl, by decide, by kernel_rfl, by kernel_rfl⟩

def ac92_G1 : List AOper :=
  [⟨(some 7), .move (.tmp 0), (some (6, false)), false⟩,
    ⟨(some 8), .bin .gtr 3 (.tmp 7) (.const (.int .i64 32)), (some (6, false)), false⟩,
    ⟨(some 9), .pick (.tmp 6) (.const (.bool true)) (.tmp 8), none, false⟩]
/-- patchbay/expr.wide -/
def ac92 : AC :=
  .seq (.region false [⟨(some 2), .move (.const (.int .i64 0)), none, false⟩,
        ⟨(some 3), .move (.const (.int .i64 0)), none, false⟩])
    (.seq (.seq (.region false (⟨(some 4), .move (.tmp 0), none, false⟩ :: ⟨(some 5), .bin .lss 3 (.tmp 4) (.const (.int .i64 1)), none, false⟩ :: ⟨(some 6), .move (.tmp 5), none, false⟩ :: (ac92_G1 ++ [])))
        (.cond (.tmp 9)
          (.seq (.region false [⟨(some 2), .move (.const (.int .i64 0)), none, false⟩,
                ⟨(some 3), .move (.const (.int .i64 10)), none, false⟩])
            (.ret))
          (.skip)))
      (.seq (.region false [⟨(some 10), .move (.tmp 0), none, false⟩,
            ⟨(some 2), .move (.tmp 10), none, false⟩,
            ⟨(some 3), .move (.const (.int .i64 0)), none, false⟩])
        (.ret)))
theorem text92 : FnText Try.prog 92 [] 11 1 ac92 [(2, none), (3, none)] :=
  ⟨Try.call92, follows, Try.f92, _, Try.func92, rfl, rfl, by decide, by kernel_rfl, by kernel_rfl⟩

def ac98_G1 : List AOper :=
  [⟨(some 14), .move (.tmp 4), (some (13, false)), false⟩,
    ⟨(some 15), .bin .gtr 3 (.tmp 14) (.const (.int .i64 32)), (some (13, false)), false⟩,
    ⟨(some 16), .pick (.tmp 13) (.const (.bool true)) (.tmp 15), none, false⟩]
def ac98_L1 : AC :=
  .seq (.region false [⟨(some 8), .bin .lss 3 (.tmp 7) (.tmp 6), none, false⟩])
    (.seq (.cond (.tmp 8)
        (.skip)
        (.exit 0))
      (.seq (.block 1 (.seq (.region false [⟨(some 9), .iaddr 1 (.tmp 5) (.tmp 7), none, false⟩,
                ⟨(some 10), .load 1 false (.tmp 9), none, false⟩,
                ⟨(some 4), .move (.tmp 10), none, false⟩])
            (.seq (.region false (⟨(some 11), .move (.tmp 4), none, false⟩ :: ⟨(some 12), .bin .lss 3 (.tmp 11) (.const (.int .i64 1)), none, false⟩ :: ⟨(some 13), .move (.tmp 12), none, false⟩ :: (ac98_G1 ++ [])))
              (.cond (.tmp 16)
                (.seq (.region false [⟨(some 2), .move (.const (.bool false)), none, false⟩])
                  (.ret))
                (.skip)))))
        (.region false [⟨(some 17), .bin .add 3 (.tmp 7) (.const (.int .i64 1)), none, false⟩,
            ⟨(some 7), .move (.tmp 17), none, false⟩])))
/-- patchbay/bitvec.valid -/
def ac98 : AC :=
  .seq (.region false [⟨(some 2), .move (.const (.bool false)), none, false⟩])
    (.seq (.seq (.region false [⟨(some 5), .move (.tmp 0), none, false⟩,
            ⟨(some 6), .bi .len [29].toArray 3 [(.tmp 5)], none, false⟩,
            ⟨(some 7), .move (.const (.int .i64 0)), none, false⟩])
        (.block 0 (.loop ac98_L1)))
      (.seq (.region false [⟨(some 2), .move (.const (.bool true)), none, false⟩])
        (.ret)))
theorem text98 : FnText Try.prog 98 [] 18 1 ac98 [(2, none)] :=
  ⟨Try.call98, follows, Try.f98, _, Try.func98, rfl, rfl, by decide, by kernel_rfl, by kernel_rfl⟩


/-- patchbay/bitvec.Mask -/
def ac93 : AC :=
  .seq (.region false [⟨(some 2), .move (.const (.int .u32 0)), none, false⟩])
    (.seq (.seq (.region false [⟨(some 3), .move (.tmp 0), none, false⟩,
            ⟨(some 4), .bslice false 3 1 false [(.tmp 3)], none, false⟩,
            ⟨(some 5), .call (.func 98) [(.tmp 4)], none, false⟩,
            ⟨(some 6), .un .not (.tmp 5), none, false⟩])
        (.cond (.tmp 6)
          (.seq (.region false [⟨(some 2), .move (.const (.int .u32 0)), none, false⟩])
            (.ret))
          (.skip)))
      (.seq (.region false [⟨(some 7), .move (.tmp 0), none, false⟩,
            ⟨(some 8), .bin .sub 3 (.const (.int .i64 32)) (.tmp 7), none, false⟩,
            ⟨(some 9), .bin .shr 147 (.const (.int .u32 4294967295)) (.tmp 8), none, false⟩,
            ⟨(some 2), .move (.tmp 9), none, false⟩])
        (.ret)))
theorem text93 : FnText Try.prog 93 [] 10 1 ac93 [(2, none)] :=
  ⟨Try.call93, follows, Try.f93, _, Try.func93, rfl, rfl, by decide, by kernel_rfl, by kernel_rfl⟩

def ac94_G1 : List AOper :=
  [⟨(some 17), .move (.tmp 1), (some (16, false)), false⟩,
    ⟨(some 18), .faddr 0 9 true (.tmp 3), (some (16, false)), false⟩,
    ⟨(some 19), .faddr 1 1 false (.tmp 18), (some (16, false)), false⟩,
    ⟨(some 20), .load 1 false (.tmp 19), (some (16, false)), false⟩,
    ⟨(some 21), .bi .len [22].toArray 3 [(.tmp 20)], (some (16, false)), false⟩,
    ⟨(some 22), .bin .geq 3 (.tmp 17) (.tmp 21), (some (16, false)), false⟩,
    ⟨(some 23), .pick (.tmp 16) (.const (.bool true)) (.tmp 22), none, false⟩]
def ac94_G2 : List AOper :=
  [⟨(some 35), .move (.tmp 2), (some (34, false)), false⟩,
    ⟨(some 36), .move (.tmp 8), (some (34, false)), false⟩,
    ⟨(some 37), .bi .len [23].toArray 3 [(.tmp 36)], (some (34, false)), false⟩,
    ⟨(some 38), .bin .geq 3 (.tmp 35) (.tmp 37), (some (34, false)), false⟩,
    ⟨(some 39), .pick (.tmp 34) (.const (.bool true)) (.tmp 38), none, false⟩]
/-- (patchbay/expr.Scope).field -/
def ac94 : AC :=
  .seq (.region false [⟨(some 3), .box false 120 (.tmp 0), none, false⟩,
        ⟨(some 6), .alloc true 115 (.agg [(.string ⟨[].toArray⟩), (.int .i64 0)].toArray), none, false⟩,
        ⟨(some 7), .move (.const (.bool false)), none, false⟩])
    (.seq (.region false [⟨(some 9), .faddr 0 9 true (.tmp 3), none, false⟩,
          ⟨(some 10), .faddr 2 1 false (.tmp 9), none, false⟩,
          ⟨(some 11), .load 1 false (.tmp 10), none, false⟩,
          ⟨(some 8), .move (.tmp 11), none, false⟩])
      (.seq (.seq (.region false [⟨(some 12), .move (.tmp 1), none, false⟩,
              ⟨(some 13), .bin .neq 3 (.tmp 12) (.const (.int .i64 (-1))), none, false⟩])
          (.cond (.tmp 13)
            (.seq (.seq (.region false (⟨(some 14), .move (.tmp 1), none, false⟩ :: ⟨(some 15), .bin .lss 3 (.tmp 14) (.const (.int .i64 0)), none, false⟩ :: ⟨(some 16), .move (.tmp 15), none, false⟩ :: (ac94_G1 ++ [])))
                (.cond (.tmp 23)
                  (.seq (.region false [⟨(some 24), .build [(.string ⟨[].toArray⟩), (.int .i64 0)] [], none, false⟩,
                        ⟨none, .store 2 (.tmp 6) (.tmp 24), none, false⟩,
                        ⟨(some 7), .move (.const (.bool false)), none, false⟩])
                    (.ret))
                  (.skip)))
              (.region false [⟨(some 25), .faddr 0 9 true (.tmp 3), none, false⟩,
                  ⟨(some 26), .faddr 1 1 false (.tmp 25), none, false⟩,
                  ⟨(some 27), .load 1 false (.tmp 26), none, false⟩,
                  ⟨(some 28), .move (.tmp 1), none, false⟩,
                  ⟨(some 29), .iaddr 2 (.tmp 27) (.tmp 28), none, false⟩,
                  ⟨(some 30), .faddr 1 1 false (.tmp 29), none, false⟩,
                  ⟨(some 31), .load 1 false (.tmp 30), none, false⟩,
                  ⟨(some 8), .move (.tmp 31), none, false⟩]))
            (.skip)))
        (.seq (.seq (.region false (⟨(some 32), .move (.tmp 2), none, false⟩ :: ⟨(some 33), .bin .lss 3 (.tmp 32) (.const (.int .i64 0)), none, false⟩ :: ⟨(some 34), .move (.tmp 33), none, false⟩ :: (ac94_G2 ++ [])))
            (.cond (.tmp 39)
              (.seq (.region false [⟨(some 40), .build [(.string ⟨[].toArray⟩), (.int .i64 0)] [], none, false⟩,
                    ⟨none, .store 2 (.tmp 6) (.tmp 40), none, false⟩,
                    ⟨(some 7), .move (.const (.bool false)), none, false⟩])
                (.ret))
              (.skip)))
          (.seq (.region false [⟨(some 41), .move (.tmp 8), none, false⟩,
                ⟨(some 42), .move (.tmp 2), none, false⟩,
                ⟨(some 43), .iaddr 2 (.tmp 41) (.tmp 42), none, false⟩,
                ⟨(some 44), .load 2 true (.tmp 43), none, false⟩,
                ⟨none, .store 2 (.tmp 6) (.tmp 44), none, false⟩,
                ⟨(some 7), .move (.const (.bool true)), none, false⟩])
            (.ret)))))
theorem text94 : FnText Try.prog 94 [6] 45 3 ac94 [(6, some (2, true)), (7, none)] :=
  ⟨Try.call94, follows, Try.f94, _, Try.func94, rfl, rfl, by decide, by kernel_rfl, by kernel_rfl⟩

def ac87_G2 : List AOper :=
  [⟨(some 27), .faddr 1 1 false (.tmp 3), (some (26, false)), false⟩,
    ⟨(some 28), .load 1 false (.tmp 27), (some (26, false)), false⟩,
    ⟨(some 29), .move (.tmp 6), (some (26, false)), false⟩,
    ⟨(some 30), .call (.func 93) [(.tmp 29)], (some (26, false)), false⟩,
    ⟨(some 31), .conv 147 3 (.tmp 30), (some (26, false)), false⟩,
    ⟨(some 32), .bin .gtr 3 (.tmp 28) (.tmp 31), (some (26, false)), false⟩,
    ⟨(some 33), .pick (.tmp 26) (.const (.bool true)) (.tmp 32), (some (22, true)), false⟩]
def ac87_G1 : List AOper :=
  (⟨(some 23), .faddr 1 1 false (.tmp 3), (some (22, true)), false⟩ :: ⟨(some 24), .load 1 false (.tmp 23), (some (22, true)), false⟩ :: ⟨(some 25), .bin .lss 3 (.tmp 24) (.const (.int .i64 0)), (some (22, true)), false⟩ :: ⟨(some 26), .move (.tmp 25), (some (22, true)), false⟩ :: (ac87_G2 ++ [⟨(some 34), .pick (.tmp 22) (.tmp 33) (.const (.bool false)), none, false⟩]))
def ac87_G3 : List AOper :=
  [⟨(some 61), .faddr 1 1 false (.tmp 3), (some (60, false)), false⟩,
    ⟨(some 62), .load 1 false (.tmp 61), (some (60, false)), false⟩,
    ⟨(some 63), .faddr 9 1 false (.tmp 2), (some (60, false)), false⟩,
    ⟨(some 64), .load 1 false (.tmp 63), (some (60, false)), false⟩,
    ⟨(some 65), .bi .len [23].toArray 3 [(.tmp 64)], (some (60, false)), false⟩,
    ⟨(some 66), .bin .geq 3 (.tmp 62) (.tmp 65), (some (60, false)), false⟩,
    ⟨(some 67), .pick (.tmp 60) (.const (.bool true)) (.tmp 66), none, false⟩]
def ac87_G4 : List AOper :=
  [⟨(some 82), .faddr 1 1 false (.tmp 3), (some (81, false)), false⟩,
    ⟨(some 83), .load 1 false (.tmp 82), (some (81, false)), false⟩,
    ⟨(some 84), .faddr 0 9 true (.tmp 2), (some (81, false)), false⟩,
    ⟨(some 85), .faddr 1 1 false (.tmp 84), (some (81, false)), false⟩,
    ⟨(some 86), .load 1 false (.tmp 85), (some (81, false)), false⟩,
    ⟨(some 87), .bi .len [22].toArray 3 [(.tmp 86)], (some (81, false)), false⟩,
    ⟨(some 88), .bin .geq 3 (.tmp 83) (.tmp 87), (some (81, false)), false⟩,
    ⟨(some 89), .pick (.tmp 81) (.const (.bool true)) (.tmp 88), none, false⟩]
/-- (patchbay/expr.Scope).primary -/
def ac87 : AC :=
  .seq (.region false [⟨(some 2), .box false 120 (.tmp 0), none, false⟩,
        ⟨(some 3), .box false 106 (.tmp 1), none, false⟩,
        ⟨(some 4), .move (.const (.int .i64 0)), none, false⟩,
        ⟨(some 5), .move (.const (.int .i64 0)), none, false⟩])
    (.seq (.seq (.region false [⟨(some 10), .faddr 0 1 false (.tmp 3), none, false⟩,
            ⟨(some 11), .load 1 false (.tmp 10), none, false⟩])
        (.block 0 (.seq (.region false [⟨(some 13), .bin .eql 3 (.tmp 11) (.const (.int .i64 1)), none, false⟩,
                ⟨(some 12), .move (.tmp 13), none, false⟩])
            (.cond (.tmp 12)
              (.seq (.region false [⟨(some 15), .faddr 2 1 false (.tmp 3), none, false⟩,
                    ⟨(some 16), .load 1 false (.tmp 15), none, false⟩,
                    ⟨(some 17), .call (.func 92) [(.tmp 16)], none, false⟩,
                    ⟨(some 14), .move (.tmp 17), none, false⟩,
                    ⟨(some 18), .extract (.tmp 14) 0, none, false⟩,
                    ⟨(some 19), .extract (.tmp 14) 1, none, false⟩,
                    ⟨(some 6), .move (.tmp 18), none, false⟩,
                    ⟨(some 7), .move (.tmp 19), none, false⟩])
                (.seq (.seq (.region true (⟨(some 20), .move (.tmp 7), none, false⟩ :: ⟨(some 21), .bin .eql 35 (.tmp 20) (.const (.int .i64 0)), none, false⟩ :: ⟨(some 22), .move (.tmp 21), none, false⟩ :: (ac87_G1 ++ [])))
                    (.cond (.tmp 34)
                      (.seq (.region false [⟨(some 4), .move (.const (.int .i64 0)), none, false⟩,
                            ⟨(some 5), .move (.const (.int .i64 9)), none, false⟩])
                        (.ret))
                      (.skip)))
                  (.seq (.region false [⟨(some 35), .move (.tmp 6), none, false⟩,
                        ⟨(some 36), .move (.tmp 7), none, false⟩,
                        ⟨(some 4), .move (.tmp 35), none, false⟩,
                        ⟨(some 5), .move (.tmp 36), none, false⟩])
                    (.ret))))
              (.seq (.region false [⟨(some 38), .bin .eql 3 (.tmp 11) (.const (.int .i64 2)), none, false⟩,
                    ⟨(some 37), .move (.tmp 38), none, false⟩])
                (.cond (.tmp 37)
                  (.seq (.region false [⟨(some 40), .load 10 true (.tmp 2), none, false⟩,
                        ⟨(some 41), .faddr 1 1 false (.tmp 3), none, false⟩,
                        ⟨(some 42), .load 1 false (.tmp 41), none, false⟩,
                        ⟨(some 43), .faddr 2 1 false (.tmp 3), none, false⟩,
                        ⟨(some 44), .load 1 false (.tmp 43), none, false⟩,
                        ⟨(some 45), .call (.func 94) [(.tmp 40), (.tmp 42), (.tmp 44)], none, false⟩,
                        ⟨(some 39), .move (.tmp 45), none, false⟩,
                        ⟨(some 46), .extract (.tmp 39) 0, none, false⟩,
                        ⟨(some 47), .extract (.tmp 39) 1, none, false⟩,
                        ⟨(some 8), .alloc true 115 (.agg [(.string ⟨[].toArray⟩), (.int .i64 0)].toArray), none, false⟩,
                        ⟨none, .store 2 (.tmp 8) (.tmp 46), none, false⟩,
                        ⟨(some 9), .move (.tmp 47), none, false⟩])
                    (.seq (.seq (.region false [⟨(some 48), .move (.tmp 9), none, false⟩,
                            ⟨(some 49), .un .not (.tmp 48), none, false⟩])
                        (.cond (.tmp 49)
                          (.seq (.region false [⟨(some 4), .move (.const (.int .i64 0)), none, false⟩,
                                ⟨(some 5), .move (.const (.int .i64 8)), none, false⟩])
                            (.ret))
                          (.skip)))
                      (.seq (.region false [⟨(some 50), .faddr 1 1 false (.tmp 8), none, false⟩,
                            ⟨(some 51), .load 1 false (.tmp 50), none, false⟩,
                            ⟨(some 52), .call (.func 92) [(.tmp 51)], none, false⟩,
                            ⟨(some 53), .extract (.tmp 52) 0, none, false⟩,
                            ⟨(some 54), .extract (.tmp 52) 1, none, false⟩,
                            ⟨(some 4), .move (.tmp 53), none, false⟩,
                            ⟨(some 5), .move (.tmp 54), none, false⟩])
                        (.ret))))
                  (.seq (.region false [⟨(some 56), .bin .eql 3 (.tmp 11) (.const (.int .i64 3)), none, false⟩,
                        ⟨(some 55), .move (.tmp 56), none, false⟩])
                    (.cond (.tmp 55)
                      (.seq (.seq (.region false (⟨(some 57), .faddr 1 1 false (.tmp 3), none, false⟩ :: ⟨(some 58), .load 1 false (.tmp 57), none, false⟩ :: ⟨(some 59), .bin .lss 3 (.tmp 58) (.const (.int .i64 0)), none, false⟩ :: ⟨(some 60), .move (.tmp 59), none, false⟩ :: (ac87_G3 ++ [])))
                          (.cond (.tmp 67)
                            (.seq (.region false [⟨(some 4), .move (.const (.int .i64 0)), none, false⟩,
                                  ⟨(some 5), .move (.const (.int .i64 8)), none, false⟩])
                              (.ret))
                            (.skip)))
                        (.seq (.region false [⟨(some 68), .faddr 9 1 false (.tmp 2), none, false⟩,
                              ⟨(some 69), .load 1 false (.tmp 68), none, false⟩,
                              ⟨(some 70), .faddr 1 1 false (.tmp 3), none, false⟩,
                              ⟨(some 71), .load 1 false (.tmp 70), none, false⟩,
                              ⟨(some 72), .iaddr 2 (.tmp 69) (.tmp 71), none, false⟩,
                              ⟨(some 73), .faddr 1 1 false (.tmp 72), none, false⟩,
                              ⟨(some 74), .load 1 false (.tmp 73), none, false⟩,
                              ⟨(some 75), .call (.func 92) [(.tmp 74)], none, false⟩,
                              ⟨(some 76), .extract (.tmp 75) 0, none, false⟩,
                              ⟨(some 77), .extract (.tmp 75) 1, none, false⟩,
                              ⟨(some 4), .move (.tmp 76), none, false⟩,
                              ⟨(some 5), .move (.tmp 77), none, false⟩])
                          (.ret)))
                      (.skip)))))))))
      (.seq (.seq (.region false (⟨(some 78), .faddr 1 1 false (.tmp 3), none, false⟩ :: ⟨(some 79), .load 1 false (.tmp 78), none, false⟩ :: ⟨(some 80), .bin .lss 3 (.tmp 79) (.const (.int .i64 0)), none, false⟩ :: ⟨(some 81), .move (.tmp 80), none, false⟩ :: (ac87_G4 ++ [])))
          (.cond (.tmp 89)
            (.seq (.region false [⟨(some 4), .move (.const (.int .i64 0)), none, false⟩,
                  ⟨(some 5), .move (.const (.int .i64 8)), none, false⟩])
              (.ret))
            (.skip)))
        (.seq (.region false [⟨(some 4), .move (.const (.int .i64 1)), none, false⟩,
              ⟨(some 5), .move (.const (.int .i64 0)), none, false⟩])
          (.ret))))
theorem text87 : FnText Try.prog 87 [8] 90 2 ac87 [(4, none), (5, none)] :=
  ⟨Try.call87, follows, Try.f87, _, Try.func87, rfl, rfl, by decide, by kernel_rfl, by kernel_rfl⟩

def ac88_G1 : List AOper :=
  [⟨(some 17), .faddr 1 1 false (.tmp 2), (some (16, false)), false⟩,
    ⟨(some 18), .load 1 false (.tmp 17), (some (16, false)), false⟩,
    ⟨(some 19), .bin .gtr 3 (.tmp 18) (.const (.int .i64 31)), (some (16, false)), false⟩,
    ⟨(some 20), .pick (.tmp 16) (.const (.bool true)) (.tmp 19), none, false⟩]
def ac88_G2 : List AOper :=
  [⟨(some 35), .faddr 1 1 false (.tmp 2), (some (34, false)), false⟩,
    ⟨(some 36), .load 1 false (.tmp 35), (some (34, false)), false⟩,
    ⟨(some 37), .iaddrA 3 1 false (.tmp 3) (.const (.int .i64 0)), (some (34, false)), false⟩,
    ⟨(some 38), .load 1 false (.tmp 37), (some (34, false)), false⟩,
    ⟨(some 39), .faddr 2 1 false (.tmp 2), (some (34, false)), false⟩,
    ⟨(some 40), .load 1 false (.tmp 39), (some (34, false)), false⟩,
    ⟨(some 41), .bin .sub 3 (.tmp 38) (.tmp 40), (some (34, false)), false⟩,
    ⟨(some 42), .bin .gtr 3 (.tmp 36) (.tmp 41), (some (34, false)), false⟩,
    ⟨(some 43), .pick (.tmp 34) (.const (.bool true)) (.tmp 42), none, false⟩]
def ac88_G3 : List AOper :=
  [⟨(some 62), .iaddrA 3 1 false (.tmp 3) (.const (.int .i64 1)), (some (61, false)), false⟩,
    ⟨(some 63), .load 1 false (.tmp 62), (some (61, false)), false⟩,
    ⟨(some 64), .iaddrA 3 1 false (.tmp 3) (.const (.int .i64 2)), (some (61, false)), false⟩,
    ⟨(some 65), .load 1 false (.tmp 64), (some (61, false)), false⟩,
    ⟨(some 66), .bin .neq 3 (.tmp 63) (.tmp 65), (some (61, false)), false⟩,
    ⟨(some 67), .pick (.tmp 61) (.const (.bool true)) (.tmp 66), none, false⟩]
def ac88_G4 : List AOper :=
  [⟨(some 75), .iaddrA 3 1 false (.tmp 3) (.const (.int .i64 0)), (some (74, true)), false⟩,
    ⟨(some 76), .load 1 false (.tmp 75), (some (74, true)), false⟩,
    ⟨(some 77), .iaddrA 3 1 false (.tmp 3) (.const (.int .i64 1)), (some (74, true)), false⟩,
    ⟨(some 78), .load 1 false (.tmp 77), (some (74, true)), false⟩,
    ⟨(some 79), .bin .neq 3 (.tmp 76) (.tmp 78), (some (74, true)), false⟩,
    ⟨(some 80), .pick (.tmp 74) (.tmp 79) (.const (.bool false)), none, false⟩]
def ac88_G5 : List AOper :=
  [⟨(some 85), .faddr 0 1 false (.tmp 2), (some (84, false)), false⟩,
    ⟨(some 86), .load 1 false (.tmp 85), (some (84, false)), false⟩,
    ⟨(some 87), .bin .eql 3 (.tmp 86) (.const (.int .i64 16)), (some (84, false)), false⟩,
    ⟨(some 88), .pick (.tmp 84) (.const (.bool true)) (.tmp 87), none, false⟩]
/-- patchbay/expr.combine -/
def ac88 : AC :=
  .seq (.region false [⟨(some 2), .box false 106 (.tmp 0), none, false⟩,
        ⟨(some 3), .box false 142 (.tmp 1), none, false⟩,
        ⟨(some 4), .move (.const (.int .i64 0)), none, false⟩,
        ⟨(some 5), .move (.const (.int .i64 0)), none, false⟩])
    (.seq (.seq (.region false [⟨(some 8), .faddr 0 1 false (.tmp 2), none, false⟩,
            ⟨(some 9), .load 1 false (.tmp 8), none, false⟩])
        (.block 0 (.seq (.seq (.region false [⟨(some 11), .bin .eql 3 (.tmp 9) (.const (.int .i64 6)), none, false⟩,
                  ⟨(some 10), .move (.tmp 11), none, false⟩])
              (.cond (.tmp 10)
                (.skip)
                (.region false [⟨(some 12), .bin .eql 3 (.tmp 9) (.const (.int .i64 7)), none, false⟩,
                    ⟨(some 10), .move (.tmp 12), none, false⟩])))
            (.cond (.tmp 10)
              (.seq (.region false (⟨(some 13), .faddr 1 1 false (.tmp 2), none, false⟩ :: ⟨(some 14), .load 1 false (.tmp 13), none, false⟩ :: ⟨(some 15), .bin .lss 3 (.tmp 14) (.const (.int .i64 0)), none, false⟩ :: ⟨(some 16), .move (.tmp 15), none, false⟩ :: (ac88_G1 ++ [])))
                (.cond (.tmp 20)
                  (.seq (.region false [⟨(some 4), .move (.const (.int .i64 0)), none, false⟩,
                        ⟨(some 5), .move (.const (.int .i64 9)), none, false⟩])
                    (.ret))
                  (.skip)))
              (.seq (.region false [⟨(some 22), .bin .eql 3 (.tmp 9) (.const (.int .i64 8)), none, false⟩,
                    ⟨(some 21), .move (.tmp 22), none, false⟩])
                (.cond (.tmp 21)
                  (.seq (.seq (.region false [⟨(some 23), .faddr 1 1 false (.tmp 2), none, false⟩,
                          ⟨(some 24), .load 1 false (.tmp 23), none, false⟩,
                          ⟨(some 25), .bin .lss 3 (.tmp 24) (.const (.int .i64 0)), none, false⟩])
                      (.cond (.tmp 25)
                        (.seq (.region false [⟨(some 4), .move (.const (.int .i64 0)), none, false⟩,
                              ⟨(some 5), .move (.const (.int .i64 9)), none, false⟩])
                          (.ret))
                        (.skip)))
                    (.seq (.seq (.region false [⟨(some 27), .faddr 2 1 false (.tmp 2), none, false⟩,
                            ⟨(some 28), .load 1 false (.tmp 27), none, false⟩,
                            ⟨(some 29), .call (.func 92) [(.tmp 28)], none, false⟩,
                            ⟨(some 26), .move (.tmp 29), none, false⟩,
                            ⟨(some 30), .extract (.tmp 26) 0, none, false⟩,
                            ⟨(some 31), .extract (.tmp 26) 1, none, false⟩,
                            ⟨(some 6), .move (.tmp 30), none, false⟩,
                            ⟨(some 7), .move (.tmp 31), none, false⟩])
                        (.seq (.region false (⟨(some 32), .move (.tmp 7), none, false⟩ :: ⟨(some 33), .bin .neq 35 (.tmp 32) (.const (.int .i64 0)), none, false⟩ :: ⟨(some 34), .move (.tmp 33), none, false⟩ :: (ac88_G2 ++ [])))
                          (.cond (.tmp 43)
                            (.seq (.region false [⟨(some 4), .move (.const (.int .i64 0)), none, false⟩,
                                  ⟨(some 5), .move (.const (.int .i64 10)), none, false⟩])
                              (.ret))
                            (.skip))))
                      (.seq (.region false [⟨(some 44), .faddr 2 1 false (.tmp 2), none, false⟩,
                            ⟨(some 45), .load 1 false (.tmp 44), none, false⟩,
                            ⟨(some 4), .move (.tmp 45), none, false⟩,
                            ⟨(some 5), .move (.const (.int .i64 0)), none, false⟩])
                        (.ret))))
                  (.seq (.region false [⟨(some 47), .bin .eql 3 (.tmp 9) (.const (.int .i64 14)), none, false⟩,
                        ⟨(some 46), .move (.tmp 47), none, false⟩])
                    (.cond (.tmp 46)
                      (.seq (.region false [⟨(some 48), .iaddrA 3 1 false (.tmp 3) (.const (.int .i64 0)), none, false⟩,
                            ⟨(some 49), .load 1 false (.tmp 48), none, false⟩,
                            ⟨(some 50), .iaddrA 3 1 false (.tmp 3) (.const (.int .i64 1)), none, false⟩,
                            ⟨(some 51), .load 1 false (.tmp 50), none, false⟩,
                            ⟨(some 52), .bin .add 3 (.tmp 49) (.tmp 51), none, false⟩,
                            ⟨(some 53), .call (.func 92) [(.tmp 52)], none, false⟩,
                            ⟨(some 54), .extract (.tmp 53) 0, none, false⟩,
                            ⟨(some 55), .extract (.tmp 53) 1, none, false⟩,
                            ⟨(some 4), .move (.tmp 54), none, false⟩,
                            ⟨(some 5), .move (.tmp 55), none, false⟩])
                        (.ret))
                      (.seq (.region false [⟨(some 57), .bin .eql 3 (.tmp 9) (.const (.int .i64 17)), none, false⟩,
                            ⟨(some 56), .move (.tmp 57), none, false⟩])
                        (.cond (.tmp 56)
                          (.seq (.seq (.region false (⟨(some 58), .iaddrA 3 1 false (.tmp 3) (.const (.int .i64 0)), none, false⟩ :: ⟨(some 59), .load 1 false (.tmp 58), none, false⟩ :: ⟨(some 60), .bin .neq 3 (.tmp 59) (.const (.int .i64 1)), none, false⟩ :: ⟨(some 61), .move (.tmp 60), none, false⟩ :: (ac88_G3 ++ [])))
                              (.cond (.tmp 67)
                                (.seq (.region false [⟨(some 4), .move (.const (.int .i64 0)), none, false⟩,
                                      ⟨(some 5), .move (.const (.int .i64 10)), none, false⟩])
                                  (.ret))
                                (.skip)))
                            (.seq (.region false [⟨(some 68), .iaddrA 3 1 false (.tmp 3) (.const (.int .i64 1)), none, false⟩,
                                  ⟨(some 69), .load 1 false (.tmp 68), none, false⟩,
                                  ⟨(some 4), .move (.tmp 69), none, false⟩,
                                  ⟨(some 5), .move (.const (.int .i64 0)), none, false⟩])
                              (.ret)))
                          (.skip)))))))))))
      (.seq (.seq (.region false (⟨(some 70), .faddr 0 1 false (.tmp 2), none, false⟩ :: ⟨(some 71), .load 1 false (.tmp 70), none, false⟩ :: ⟨(some 72), .call (.func 86) [(.tmp 71)], none, false⟩ :: ⟨(some 73), .bin .eql 3 (.tmp 72) (.const (.int .i64 2)), none, false⟩ :: ⟨(some 74), .move (.tmp 73), none, false⟩ :: (ac88_G4 ++ [])))
          (.cond (.tmp 80)
            (.seq (.region false [⟨(some 4), .move (.const (.int .i64 0)), none, false⟩,
                  ⟨(some 5), .move (.const (.int .i64 10)), none, false⟩])
              (.ret))
            (.skip)))
        (.seq (.seq (.region false (⟨(some 81), .faddr 0 1 false (.tmp 2), none, false⟩ :: ⟨(some 82), .load 1 false (.tmp 81), none, false⟩ :: ⟨(some 83), .bin .eql 3 (.tmp 82) (.const (.int .i64 15)), none, false⟩ :: ⟨(some 84), .move (.tmp 83), none, false⟩ :: (ac88_G5 ++ [])))
            (.cond (.tmp 88)
              (.seq (.region false [⟨(some 4), .move (.const (.int .i64 1)), none, false⟩,
                    ⟨(some 5), .move (.const (.int .i64 0)), none, false⟩])
                (.ret))
              (.skip)))
          (.seq (.region false [⟨(some 89), .iaddrA 3 1 false (.tmp 3) (.const (.int .i64 0)), none, false⟩,
                ⟨(some 90), .load 1 false (.tmp 89), none, false⟩,
                ⟨(some 4), .move (.tmp 90), none, false⟩,
                ⟨(some 5), .move (.const (.int .i64 0)), none, false⟩])
            (.ret)))))
theorem text88 : FnText Try.prog 88 [] 91 2 ac88 [(4, none), (5, none)] :=
  ⟨Try.call88, follows, Try.f88, _, Try.func88, rfl, rfl, by decide, by kernel_rfl, by kernel_rfl⟩

def ac84_L1 : AC :=
  .seq (.region false [⟨(some 45), .bin .lss 3 (.tmp 44) (.tmp 43), none, false⟩])
    (.seq (.cond (.tmp 45)
        (.skip)
        (.exit 1))
      (.seq (.block 2 (.seq (.region false [⟨(some 46), .move (.tmp 44), none, false⟩,
                ⟨(some 11), .move (.tmp 46), none, false⟩])
            (.seq (.region false [⟨(some 48), .move (.tmp 11), none, false⟩,
                  ⟨(some 49), .load 10 true (.tmp 3), none, false⟩,
                  ⟨(some 50), .move (.tmp 1), none, false⟩,
                  ⟨(some 51), .move (.tmp 7), none, false⟩,
                  ⟨(some 52), .call (.func 84) [(.tmp 49), (.tmp 50), (.tmp 51)], none, false⟩,
                  ⟨(some 47), .move (.tmp 52), none, false⟩,
                  ⟨(some 53), .extract (.tmp 47) 0, none, false⟩,
                  ⟨(some 54), .extract (.tmp 47) 1, none, false⟩,
                  ⟨(some 55), .extract (.tmp 47) 2, none, false⟩,
                  ⟨(some 56), .iaddrA 3 1 false (.tmp 10) (.tmp 48), none, false⟩,
                  ⟨none, .store 1 (.tmp 56) (.tmp 53), none, false⟩,
                  ⟨(some 7), .move (.tmp 54), none, false⟩,
                  ⟨(some 8), .move (.tmp 55), none, false⟩])
              (.seq (.region false [⟨(some 57), .move (.tmp 8), none, false⟩,
                    ⟨(some 58), .bin .neq 35 (.tmp 57) (.const (.int .i64 0)), none, false⟩])
                (.cond (.tmp 58)
                  (.seq (.region false [⟨(some 59), .move (.tmp 8), none, false⟩,
                        ⟨(some 6), .move (.const (.int .i64 0)), none, false⟩,
                        ⟨(some 7), .move (.const (.int .i64 0)), none, false⟩,
                        ⟨(some 8), .move (.tmp 59), none, false⟩])
                    (.ret))
                  (.skip))))))
        (.region false [⟨(some 60), .bin .add 3 (.tmp 44) (.const (.int .i64 1)), none, false⟩,
            ⟨(some 44), .move (.tmp 60), none, false⟩])))
/-- (patchbay/expr.Scope).check -/
def ac84 : AC :=
  .seq (.region false [⟨(some 3), .box false 120 (.tmp 0), none, false⟩,
        ⟨(some 6), .move (.const (.int .i64 0)), none, false⟩,
        ⟨(some 7), .move (.const (.int .i64 0)), none, false⟩,
        ⟨(some 8), .move (.const (.int .i64 0)), none, false⟩])
    (.seq (.seq (.region false [⟨(some 12), .move (.tmp 2), none, false⟩,
            ⟨(some 13), .move (.tmp 1), none, false⟩,
            ⟨(some 14), .bi .len [38].toArray 3 [(.tmp 13)], none, false⟩,
            ⟨(some 15), .bin .geq 3 (.tmp 12) (.tmp 14), none, false⟩])
        (.cond (.tmp 15)
          (.seq (.region false [⟨(some 6), .move (.const (.int .i64 0)), none, false⟩,
                ⟨(some 7), .move (.const (.int .i64 0)), none, false⟩,
                ⟨(some 8), .move (.const (.int .i64 3)), none, false⟩])
            (.ret))
          (.skip)))
      (.seq (.region false [⟨(some 16), .move (.tmp 1), none, false⟩,
            ⟨(some 17), .move (.tmp 2), none, false⟩,
            ⟨(some 18), .iaddr 3 (.tmp 16) (.tmp 17), none, false⟩,
            ⟨(some 19), .faddr 0 1 false (.tmp 18), none, false⟩,
            ⟨(some 20), .load 1 false (.tmp 19), none, false⟩,
            ⟨(some 21), .call (.func 86) [(.tmp 20)], none, false⟩,
            ⟨(some 9), .move (.tmp 21), none, false⟩])
        (.seq (.block 0 (.seq (.region false [⟨(some 23), .move (.tmp 9), none, false⟩,
                  ⟨(some 24), .bin .lss 3 (.tmp 23) (.const (.int .i64 0)), none, false⟩,
                  ⟨(some 22), .move (.tmp 24), none, false⟩])
              (.cond (.tmp 22)
                (.seq (.region false [⟨(some 6), .move (.const (.int .i64 0)), none, false⟩,
                      ⟨(some 7), .move (.const (.int .i64 0)), none, false⟩,
                      ⟨(some 8), .move (.const (.int .i64 11)), none, false⟩])
                  (.ret))
                (.seq (.region false [⟨(some 26), .move (.tmp 9), none, false⟩,
                      ⟨(some 27), .bin .eql 3 (.tmp 26) (.const (.int .i64 0)), none, false⟩,
                      ⟨(some 25), .move (.tmp 27), none, false⟩])
                  (.cond (.tmp 25)
                    (.seq (.region true [⟨(some 29), .load 10 true (.tmp 3), none, false⟩,
                          ⟨(some 30), .move (.tmp 1), none, false⟩,
                          ⟨(some 31), .move (.tmp 2), none, false⟩,
                          ⟨(some 32), .iaddr 3 (.tmp 30) (.tmp 31), none, false⟩,
                          ⟨(some 33), .load 3 true (.tmp 32), none, false⟩,
                          ⟨(some 34), .call (.func 87) [(.tmp 29), (.tmp 33)], none, false⟩,
                          ⟨(some 28), .move (.tmp 34), none, false⟩,
                          ⟨(some 35), .extract (.tmp 28) 0, none, false⟩,
                          ⟨(some 36), .extract (.tmp 28) 1, none, false⟩,
                          ⟨(some 6), .move (.tmp 35), none, false⟩,
                          ⟨(some 8), .move (.tmp 36), none, false⟩])
                      (.seq (.region false [⟨(some 37), .move (.tmp 6), none, false⟩,
                            ⟨(some 38), .move (.tmp 2), none, false⟩,
                            ⟨(some 39), .bin .add 3 (.tmp 38) (.const (.int .i64 1)), none, false⟩,
                            ⟨(some 40), .move (.tmp 8), none, false⟩,
                            ⟨(some 6), .move (.tmp 37), none, false⟩,
                            ⟨(some 7), .move (.tmp 39), none, false⟩,
                            ⟨(some 8), .move (.tmp 40), none, false⟩])
                        (.ret)))
                    (.skip))))))
          (.seq (.region false [⟨(some 10), .alloc true 142 (.agg [(.int .i64 0), (.int .i64 0), (.int .i64 0)].toArray), none, false⟩])
            (.seq (.region false [⟨(some 41), .move (.tmp 2), none, false⟩,
                  ⟨(some 42), .bin .add 3 (.tmp 41) (.const (.int .i64 1)), none, false⟩,
                  ⟨(some 7), .move (.tmp 42), none, false⟩])
              (.seq (.seq (.region false [⟨(some 43), .move (.tmp 9), none, false⟩,
                      ⟨(some 44), .move (.const (.int .i64 0)), none, false⟩])
                  (.block 1 (.loop ac84_L1)))
                (.seq (.region true [⟨(some 62), .move (.tmp 1), none, false⟩,
                      ⟨(some 63), .move (.tmp 2), none, false⟩,
                      ⟨(some 64), .iaddr 3 (.tmp 62) (.tmp 63), none, false⟩,
                      ⟨(some 65), .load 3 true (.tmp 64), none, false⟩,
                      ⟨(some 66), .load 3 true (.tmp 10), none, false⟩,
                      ⟨(some 67), .call (.func 88) [(.tmp 65), (.tmp 66)], none, false⟩,
                      ⟨(some 61), .move (.tmp 67), none, false⟩,
                      ⟨(some 68), .extract (.tmp 61) 0, none, false⟩,
                      ⟨(some 69), .extract (.tmp 61) 1, none, false⟩,
                      ⟨(some 6), .move (.tmp 68), none, false⟩,
                      ⟨(some 8), .move (.tmp 69), none, false⟩])
                  (.seq (.region false [⟨(some 70), .move (.tmp 6), none, false⟩,
                        ⟨(some 71), .move (.tmp 7), none, false⟩,
                        ⟨(some 72), .move (.tmp 8), none, false⟩,
                        ⟨(some 6), .move (.tmp 70), none, false⟩,
                        ⟨(some 7), .move (.tmp 71), none, false⟩,
                        ⟨(some 8), .move (.tmp 72), none, false⟩])
                    (.ret)))))))))
theorem text84 : FnText Try.prog 84 [10] 73 3 ac84 [(6, none), (7, none), (8, none)] :=
  ⟨Try.call84, follows, Try.f84, _, Try.func84, rfl, rfl, by decide, by kernel_rfl, by kernel_rfl⟩


/-- patchbay/expr.Check -/
def ac75 : AC :=
  .seq (.region false [⟨(some 3), .box false 120 (.tmp 1), none, false⟩,
        ⟨(some 4), .move (.const (.int .i64 0)), none, false⟩,
        ⟨(some 5), .move (.const (.int .i64 0)), none, false⟩])
    (.seq (.seq (.region false [⟨(some 7), .move (.tmp 0), none, false⟩,
            ⟨(some 8), .bi .len [38].toArray 3 [(.tmp 7)], none, false⟩,
            ⟨(some 9), .bin .gtr 3 (.tmp 8) (.const (.int .i64 24)), none, false⟩])
        (.cond (.tmp 9)
          (.seq (.region false [⟨(some 4), .move (.const (.int .i64 0)), none, false⟩,
                ⟨(some 5), .move (.const (.int .i64 12)), none, false⟩])
            (.ret))
          (.skip)))
      (.seq (.region false [⟨(some 11), .load 10 true (.tmp 3), none, false⟩,
            ⟨(some 12), .move (.tmp 0), none, false⟩,
            ⟨(some 13), .call (.func 84) [(.tmp 11), (.tmp 12), (.const (.int .i64 0))], none, false⟩,
            ⟨(some 10), .move (.tmp 13), none, false⟩,
            ⟨(some 14), .extract (.tmp 10) 0, none, false⟩,
            ⟨(some 15), .extract (.tmp 10) 1, none, false⟩,
            ⟨(some 16), .extract (.tmp 10) 2, none, false⟩,
            ⟨(some 4), .move (.tmp 14), none, false⟩,
            ⟨(some 6), .move (.tmp 15), none, false⟩,
            ⟨(some 5), .move (.tmp 16), none, false⟩])
        (.seq (.block 0 (.seq (.region false [⟨(some 18), .move (.tmp 5), none, false⟩,
                  ⟨(some 19), .bin .neq 35 (.tmp 18) (.const (.int .i64 0)), none, false⟩,
                  ⟨(some 17), .move (.tmp 19), none, false⟩])
              (.cond (.tmp 17)
                (.seq (.region false [⟨(some 20), .move (.tmp 5), none, false⟩,
                      ⟨(some 4), .move (.const (.int .i64 0)), none, false⟩,
                      ⟨(some 5), .move (.tmp 20), none, false⟩])
                  (.ret))
                (.seq (.region false [⟨(some 22), .move (.tmp 6), none, false⟩,
                      ⟨(some 23), .move (.tmp 0), none, false⟩,
                      ⟨(some 24), .bi .len [38].toArray 3 [(.tmp 23)], none, false⟩,
                      ⟨(some 25), .bin .lss 3 (.tmp 22) (.tmp 24), none, false⟩,
                      ⟨(some 21), .move (.tmp 25), none, false⟩])
                  (.cond (.tmp 21)
                    (.seq (.region false [⟨(some 4), .move (.const (.int .i64 0)), none, false⟩,
                          ⟨(some 5), .move (.const (.int .i64 4)), none, false⟩])
                      (.ret))
                    (.skip))))))
          (.seq (.region false [⟨(some 26), .move (.tmp 4), none, false⟩,
                ⟨(some 4), .move (.tmp 26), none, false⟩,
                ⟨(some 5), .move (.const (.int .i64 0)), none, false⟩])
            (.ret)))))
theorem text75 : FnText Try.prog 75 [] 27 2 ac75 [(4, none), (5, none)] :=
  ⟨Try.call75, follows, Try.f75, _, Try.func75, rfl, rfl, by decide, by kernel_rfl, by kernel_rfl⟩

def ac50_G1 : List AOper :=
  [⟨(some 20), .faddr 1 1 false (.tmp 4), (some (19, false)), false⟩,
    ⟨(some 21), .load 1 false (.tmp 20), (some (19, false)), false⟩,
    ⟨(some 22), .faddr 5 1 false (.tmp 3), (some (19, false)), false⟩,
    ⟨(some 23), .load 1 false (.tmp 22), (some (19, false)), false⟩,
    ⟨(some 24), .bi .len [26].toArray 3 [(.tmp 23)], (some (19, false)), false⟩,
    ⟨(some 25), .bin .geq 3 (.tmp 21) (.tmp 24), (some (19, false)), false⟩,
    ⟨(some 26), .pick (.tmp 19) (.const (.bool true)) (.tmp 25), none, false⟩]
def ac50_L1 : AC :=
  .seq (.region false [⟨(some 30), .bin .lss 3 (.tmp 29) (.tmp 28), none, false⟩])
    (.seq (.cond (.tmp 30)
        (.skip)
        (.exit 1))
      (.seq (.block 2 (.seq (.region false [⟨(some 31), .iaddr 1 (.tmp 27) (.tmp 29), none, false⟩,
                ⟨(some 32), .load 1 false (.tmp 31), none, false⟩,
                ⟨(some 8), .move (.tmp 32), none, false⟩])
            (.seq (.region false [⟨(some 33), .move (.tmp 8), none, false⟩,
                  ⟨(some 34), .faddr 1 1 false (.tmp 4), none, false⟩,
                  ⟨(some 35), .load 1 false (.tmp 34), none, false⟩,
                  ⟨(some 36), .bin .eql 3 (.tmp 33) (.tmp 35), none, false⟩])
              (.cond (.tmp 36)
                (.seq (.region false [⟨(some 6), .move (.const (.int .i64 7)), none, false⟩])
                  (.ret))
                (.skip)))))
        (.region false [⟨(some 37), .bin .add 3 (.tmp 29) (.const (.int .i64 1)), none, false⟩,
            ⟨(some 29), .move (.tmp 37), none, false⟩])))
def ac50_G2 : List AOper :=
  [⟨(some 42), .faddr 3 1 false (.tmp 4), (some (41, true)), false⟩,
    ⟨(some 43), .load 1 false (.tmp 42), (some (41, true)), false⟩,
    ⟨(some 44), .bi .len [28].toArray 3 [(.tmp 43)], (some (41, true)), false⟩,
    ⟨(some 45), .faddr 4 1 false (.tmp 4), (some (41, true)), false⟩,
    ⟨(some 46), .load 1 false (.tmp 45), (some (41, true)), false⟩,
    ⟨(some 47), .bi .len [28].toArray 3 [(.tmp 46)], (some (41, true)), false⟩,
    ⟨(some 48), .bin .add 3 (.tmp 44) (.tmp 47), (some (41, true)), false⟩,
    ⟨(some 49), .bin .gtr 3 (.tmp 48) (.const (.int .i64 0)), (some (41, true)), false⟩,
    ⟨(some 50), .pick (.tmp 41) (.tmp 49) (.const (.bool false)), none, false⟩]
/-- patchbay/control.checkNode -/
def ac50 : AC :=
  .seq (.region false [⟨(some 3), .box false 31 (.tmp 0), none, false⟩,
        ⟨(some 4), .box false 40 (.tmp 1), none, false⟩,
        ⟨(some 6), .move (.const (.int .i64 0)), none, false⟩])
    (.seq (.seq (.region false [⟨(some 11), .faddr 0 1 false (.tmp 4), none, false⟩,
            ⟨(some 12), .load 1 false (.tmp 11), none, false⟩])
        (.block 0 (.seq (.seq (.region false [⟨(some 14), .bin .eql 3 (.tmp 12) (.const (.int .i64 1)), none, false⟩,
                  ⟨(some 13), .move (.tmp 14), none, false⟩])
              (.cond (.tmp 13)
                (.skip)
                (.region false [⟨(some 15), .bin .eql 3 (.tmp 12) (.const (.int .i64 3)), none, false⟩,
                    ⟨(some 13), .move (.tmp 15), none, false⟩])))
            (.cond (.tmp 13)
              (.seq (.seq (.region false (⟨(some 16), .faddr 1 1 false (.tmp 4), none, false⟩ :: ⟨(some 17), .load 1 false (.tmp 16), none, false⟩ :: ⟨(some 18), .bin .lss 3 (.tmp 17) (.const (.int .i64 0)), none, false⟩ :: ⟨(some 19), .move (.tmp 18), none, false⟩ :: (ac50_G1 ++ [])))
                  (.cond (.tmp 26)
                    (.seq (.region false [⟨(some 6), .move (.const (.int .i64 8)), none, false⟩])
                      (.ret))
                    (.skip)))
                (.seq (.seq (.region false [⟨(some 27), .move (.tmp 2), none, false⟩,
                        ⟨(some 28), .bi .len [29].toArray 3 [(.tmp 27)], none, false⟩,
                        ⟨(some 29), .move (.const (.int .i64 0)), none, false⟩])
                    (.block 1 (.loop ac50_L1)))
                  (.seq (.region false (⟨(some 38), .faddr 0 1 false (.tmp 4), none, false⟩ :: ⟨(some 39), .load 1 false (.tmp 38), none, false⟩ :: ⟨(some 40), .bin .eql 3 (.tmp 39) (.const (.int .i64 1)), none, false⟩ :: ⟨(some 41), .move (.tmp 40), none, false⟩ :: (ac50_G2 ++ [])))
                    (.cond (.tmp 50)
                      (.seq (.region false [⟨(some 6), .move (.const (.int .i64 5)), none, false⟩])
                        (.ret))
                      (.skip)))))
              (.seq (.region false [⟨(some 52), .bin .eql 3 (.tmp 12) (.const (.int .i64 2)), none, false⟩,
                    ⟨(some 51), .move (.tmp 52), none, false⟩])
                (.cond (.tmp 51)
                  (.seq (.region false [⟨(some 54), .faddr 2 1 false (.tmp 4), none, false⟩,
                        ⟨(some 55), .load 1 false (.tmp 54), none, false⟩,
                        ⟨(some 56), .load 9 true (.tmp 3), none, false⟩,
                        ⟨(some 57), .build [(.string ⟨[].toArray⟩), (.slice none 0 0), (.slice none 0 0), (.slice none 0 0), (.slice none 0 0), (.slice none 0 0), (.slice none 0 0), (.slice none 0 0), (.slice none 0 0), (.slice none 0 0)] [(0, 9, (.tmp 56))], none, false⟩,
                        ⟨(some 58), .call (.func 75) [(.tmp 55), (.tmp 57)], none, false⟩,
                        ⟨(some 53), .move (.tmp 58), none, false⟩,
                        ⟨(some 59), .extract (.tmp 53) 0, none, false⟩,
                        ⟨(some 60), .extract (.tmp 53) 1, none, false⟩,
                        ⟨(some 9), .move (.tmp 59), none, false⟩,
                        ⟨(some 10), .move (.tmp 60), none, false⟩])
                    (.seq (.seq (.region false [⟨(some 61), .move (.tmp 10), none, false⟩,
                            ⟨(some 62), .bin .neq 35 (.tmp 61) (.const (.int .i64 0)), none, false⟩])
                        (.cond (.tmp 62)
                          (.seq (.region false [⟨(some 63), .move (.tmp 10), none, false⟩,
                                ⟨(some 6), .move (.tmp 63), none, false⟩])
                            (.ret))
                          (.skip)))
                      (.seq (.region false [⟨(some 64), .move (.tmp 9), none, false⟩,
                            ⟨(some 65), .bin .neq 3 (.tmp 64) (.const (.int .i64 1)), none, false⟩])
                        (.cond (.tmp 65)
                          (.seq (.region false [⟨(some 6), .move (.const (.int .i64 10)), none, false⟩])
                            (.ret))
                          (.skip)))))
                  (.seq (.region false [⟨(some 6), .move (.const (.int .i64 11)), none, false⟩])
                    (.ret))))))))
      (.seq (.region false [⟨(some 6), .move (.const (.int .i64 0)), none, false⟩])
        (.ret)))
theorem text50 : FnText Try.prog 50 [] 66 3 ac50 [(6, none)] :=
  ⟨Try.call50, follows, Try.f50, _, Try.func50, rfl, rfl, by decide, by kernel_rfl, by kernel_rfl⟩

def ac51_G1 : List AOper :=
  [⟨(some 7), .faddr 0 1 false (.tmp 1), (some (6, false)), false⟩,
    ⟨(some 8), .load 1 false (.tmp 7), (some (6, false)), false⟩,
    ⟨(some 9), .bin .eql 3 (.tmp 8) (.const (.int .i64 3)), (some (6, false)), false⟩,
    ⟨(some 10), .pick (.tmp 6) (.const (.bool true)) (.tmp 9), none, false⟩]
/-- patchbay/control.applies -/
def ac51 : AC :=
  .seq (.region false [⟨(some 1), .box false 40 (.tmp 0), none, false⟩,
        ⟨(some 2), .move (.const (.bool false)), none, false⟩])
    (.seq (.region false (⟨(some 3), .faddr 0 1 false (.tmp 1), none, false⟩ :: ⟨(some 4), .load 1 false (.tmp 3), none, false⟩ :: ⟨(some 5), .bin .eql 3 (.tmp 4) (.const (.int .i64 1)), none, false⟩ :: ⟨(some 6), .move (.tmp 5), none, false⟩ :: (ac51_G1 ++ [⟨(some 2), .move (.tmp 10), none, false⟩])))
      (.ret))
theorem text51 : FnText Try.prog 51 [] 11 1 ac51 [(2, none)] :=
  ⟨Try.call51, follows, Try.f51, _, Try.func51, rfl, rfl, by decide, by kernel_rfl, by kernel_rfl⟩


/-- patchbay/control.Check$1 -/
def ac49 : AC :=
  .seq (.region false [⟨(some 5), .box false 40 (.tmp 0), none, false⟩,
        ⟨(some 6), .move (.const (.bool false)), none, false⟩])
    (.seq (.seq (.region false [⟨(some 7), .load 9 true (.tmp 1), none, false⟩,
            ⟨(some 8), .load 5 true (.tmp 5), none, false⟩,
            ⟨(some 9), .load 1 false (.tmp 2), none, false⟩,
            ⟨(some 10), .call (.func 50) [(.tmp 7), (.tmp 8), (.tmp 9)], none, false⟩,
            ⟨none, .store 1 (.tmp 3) (.tmp 10), none, false⟩])
        (.seq (.region false [⟨(some 11), .load 1 false (.tmp 3), none, false⟩,
              ⟨(some 12), .bin .neq 35 (.tmp 11) (.const (.int .i64 0)), none, false⟩])
          (.cond (.tmp 12)
            (.seq (.region false [⟨(some 6), .move (.const (.bool false)), none, false⟩])
              (.ret))
            (.skip))))
      (.seq (.seq (.region false [⟨(some 13), .load 5 true (.tmp 5), none, false⟩,
              ⟨(some 14), .call (.func 51) [(.tmp 13)], none, false⟩])
          (.cond (.tmp 14)
            (.region false [⟨(some 15), .load 1 false (.tmp 2), none, false⟩,
                ⟨(some 16), .faddr 1 1 false (.tmp 5), none, false⟩,
                ⟨(some 17), .load 1 false (.tmp 16), none, false⟩,
                ⟨(some 18), .bslice false 3 1 false [(.tmp 17)], none, false⟩,
                ⟨(some 19), .append 29 3 1 8 (.tmp 15) (.tmp 18), none, false⟩,
                ⟨none, .store 1 (.tmp 2) (.tmp 19), none, false⟩])
            (.skip)))
        (.seq (.region false [⟨(some 20), .load 1 false (.tmp 4), none, false⟩,
              ⟨(some 21), .bin .add 3 (.tmp 20) (.const (.int .i64 1)), none, false⟩,
              ⟨none, .store 1 (.tmp 4) (.tmp 21), none, false⟩])
          (.seq (.region false [⟨(some 6), .move (.const (.bool true)), none, false⟩])
            (.ret)))))
theorem text49 : FnText Try.prog 49 [] 22 5 ac49 [(6, none)] :=
  ⟨Try.call49, follows, Try.f49, _, Try.func49, rfl, rfl, by decide, by kernel_rfl, by kernel_rfl⟩


/-- patchbay/control.Check -/
def ac16 : AC :=
  .seq (.region false [⟨(some 1), .box false 31 (.tmp 0), none, false⟩,
        ⟨(some 2), .move (.const (.int .i64 0)), none, false⟩,
        ⟨(some 3), .alloc true 35 (.int .i64 0), none, false⟩])
    (.seq (.seq (.region false [⟨(some 6), .faddr 7 1 false (.tmp 1), none, false⟩,
            ⟨(some 7), .load 1 false (.tmp 6), none, false⟩,
            ⟨(some 8), .call (.func 20) [(.tmp 7)], none, false⟩,
            ⟨(some 9), .bin .gtr 3 (.tmp 8) (.const (.int .i64 24)), none, false⟩])
        (.cond (.tmp 9)
          (.seq (.region false [⟨(some 2), .move (.const (.int .i64 (-1))), none, false⟩,
                ⟨none, .store 1 (.tmp 3) (.const (.int .i64 12)), none, false⟩])
            (.ret))
          (.skip)))
      (.seq (.seq (.region false [⟨(some 10), .faddr 7 1 false (.tmp 1), none, false⟩,
              ⟨(some 11), .load 1 false (.tmp 10), none, false⟩,
              ⟨(some 12), .call (.func 22) [(.tmp 11)], none, false⟩,
              ⟨(some 13), .bin .gtr 3 (.tmp 12) (.const (.int .i64 6)), none, false⟩])
          (.cond (.tmp 13)
            (.seq (.region false [⟨(some 2), .move (.const (.int .i64 (-1))), none, false⟩,
                  ⟨none, .store 1 (.tmp 3) (.const (.int .i64 14)), none, false⟩])
              (.ret))
            (.skip)))
        (.seq (.region false [⟨(some 4), .alloc true 3 (.int .i64 0), none, false⟩,
              ⟨none, .store 1 (.tmp 4) (.const (.int .i64 0)), none, false⟩])
          (.seq (.region false [⟨(some 5), .alloc true 29 (.slice none 0 0), none, false⟩])
            (.seq (.region false [⟨(some 14), .faddr 7 1 false (.tmp 1), none, false⟩,
                  ⟨(some 15), .load 1 false (.tmp 14), none, false⟩,
                  ⟨(some 16), .mkFunc (.func 49) [] [(.tmp 1), (.tmp 5), (.tmp 3), (.tmp 4)], none, false⟩,
                  ⟨(some 17), .call (.func 48) [(.tmp 15), (.tmp 16)], none, false⟩])
              (.seq (.seq (.region false [⟨(some 18), .load 1 false (.tmp 3), none, false⟩,
                      ⟨(some 19), .bin .neq 35 (.tmp 18) (.const (.int .i64 0)), none, false⟩])
                  (.cond (.tmp 19)
                    (.seq (.region true [⟨(some 20), .load 1 false (.tmp 4), none, false⟩,
                          ⟨(some 21), .load 1 false (.tmp 3), none, false⟩,
                          ⟨(some 2), .move (.tmp 20), none, false⟩,
                          ⟨none, .store 1 (.tmp 3) (.tmp 21), none, false⟩])
                      (.ret))
                    (.skip)))
                (.seq (.region false [⟨(some 2), .move (.const (.int .i64 0)), none, false⟩,
                      ⟨none, .store 1 (.tmp 3) (.const (.int .i64 0)), none, false⟩])
                  (.ret))))))))
theorem text16 : FnText Try.prog 16 [3, 4, 5] 22 1 ac16 [(2, none), (3, some (1, false))] :=
  ⟨Try.call16, follows, Try.f16, _, Try.func16, rfl, rfl, by decide, by kernel_rfl, by kernel_rfl⟩

def ac21_L1 : AC :=
  .seq (.seq (.region false [⟨(some 5), .move (.tmp 4), none, false⟩,
          ⟨(some 6), .move (.tmp 0), none, false⟩,
          ⟨(some 7), .bi .len [28].toArray 3 [(.tmp 6)], none, false⟩,
          ⟨(some 8), .bin .lss 3 (.tmp 5) (.tmp 7), none, false⟩])
      (.cond (.tmp 8)
        (.skip)
        (.exit 0)))
    (.seq (.block 1 (.region true [⟨(some 11), .move (.tmp 3), none, false⟩,
            ⟨(some 12), .move (.tmp 0), none, false⟩,
            ⟨(some 13), .move (.tmp 4), none, false⟩,
            ⟨(some 14), .iaddr 5 (.tmp 12) (.tmp 13), none, false⟩,
            ⟨(some 15), .faddr 3 1 false (.tmp 14), none, false⟩,
            ⟨(some 16), .load 1 false (.tmp 15), none, false⟩,
            ⟨(some 17), .call (.func 21) [(.tmp 16)], none, false⟩,
            ⟨(some 18), .bin .add 3 (.const (.int .i64 1)) (.tmp 17), none, false⟩,
            ⟨(some 19), .move (.tmp 0), none, false⟩,
            ⟨(some 20), .move (.tmp 4), none, false⟩,
            ⟨(some 21), .iaddr 5 (.tmp 19) (.tmp 20), none, false⟩,
            ⟨(some 22), .faddr 4 1 false (.tmp 21), none, false⟩,
            ⟨(some 23), .load 1 false (.tmp 22), none, false⟩,
            ⟨(some 24), .call (.func 21) [(.tmp 23)], none, false⟩,
            ⟨(some 25), .bin .add 3 (.tmp 18) (.tmp 24), none, false⟩,
            ⟨(some 26), .bin .add 3 (.tmp 11) (.tmp 25), none, false⟩,
            ⟨(some 3), .move (.tmp 26), none, false⟩]))
      (.region false [⟨(some 9), .move (.tmp 4), none, false⟩,
          ⟨(some 10), .bin .add 3 (.tmp 9) (.const (.int .i64 1)), none, false⟩,
          ⟨(some 4), .move (.tmp 10), none, false⟩]))
/-- patchbay/patchbayref20.Count -/
def ac21 : AC :=
  .seq (.region false [⟨(some 2), .move (.const (.int .i64 0)), none, false⟩])
    (.seq (.region false [⟨(some 3), .move (.const (.int .i64 0)), none, false⟩])
      (.seq (.seq (.region false [⟨(some 4), .move (.const (.int .i64 0)), none, false⟩])
          (.block 0 (.loop ac21_L1)))
        (.seq (.region false [⟨(some 27), .move (.tmp 3), none, false⟩,
              ⟨(some 2), .move (.tmp 27), none, false⟩])
          (.ret))))
theorem text21 : FnText Try.prog 21 [] 28 1 ac21 [(2, none)] :=
  ⟨Try.call21, follows, Try.f21, _, Try.func21, rfl, rfl, by decide, by kernel_rfl, by kernel_rfl⟩

def ac23_L1 : AC :=
  .seq (.seq (.region false [⟨(some 5), .move (.tmp 4), none, false⟩,
          ⟨(some 6), .move (.tmp 0), none, false⟩,
          ⟨(some 7), .bi .len [28].toArray 3 [(.tmp 6)], none, false⟩,
          ⟨(some 8), .bin .lss 3 (.tmp 5) (.tmp 7), none, false⟩])
      (.cond (.tmp 8)
        (.skip)
        (.exit 0)))
    (.seq (.block 1 (.region true [⟨(some 11), .move (.tmp 3), none, false⟩,
            ⟨(some 12), .move (.tmp 0), none, false⟩,
            ⟨(some 13), .move (.tmp 4), none, false⟩,
            ⟨(some 14), .iaddr 5 (.tmp 12) (.tmp 13), none, false⟩,
            ⟨(some 15), .faddr 3 1 false (.tmp 14), none, false⟩,
            ⟨(some 16), .load 1 false (.tmp 15), none, false⟩,
            ⟨(some 17), .call (.func 23) [(.tmp 16)], none, false⟩,
            ⟨(some 18), .bin .add 3 (.const (.int .i64 1)) (.tmp 17), none, false⟩,
            ⟨(some 19), .move (.tmp 0), none, false⟩,
            ⟨(some 20), .move (.tmp 4), none, false⟩,
            ⟨(some 21), .iaddr 5 (.tmp 19) (.tmp 20), none, false⟩,
            ⟨(some 22), .faddr 4 1 false (.tmp 21), none, false⟩,
            ⟨(some 23), .load 1 false (.tmp 22), none, false⟩,
            ⟨(some 24), .call (.func 23) [(.tmp 23)], none, false⟩,
            ⟨(some 25), .bin .add 3 (.const (.int .i64 1)) (.tmp 24), none, false⟩,
            ⟨(some 26), .bi .max [3, 3, 3].toArray 3 [(.tmp 11), (.tmp 18), (.tmp 25)], none, false⟩,
            ⟨(some 3), .move (.tmp 26), none, false⟩]))
      (.region false [⟨(some 9), .move (.tmp 4), none, false⟩,
          ⟨(some 10), .bin .add 3 (.tmp 9) (.const (.int .i64 1)), none, false⟩,
          ⟨(some 4), .move (.tmp 10), none, false⟩]))
/-- patchbay/patchbayref20.Nesting -/
def ac23 : AC :=
  .seq (.region false [⟨(some 2), .move (.const (.int .i64 0)), none, false⟩])
    (.seq (.region false [⟨(some 3), .move (.const (.int .i64 0)), none, false⟩])
      (.seq (.seq (.region false [⟨(some 4), .move (.const (.int .i64 0)), none, false⟩])
          (.block 0 (.loop ac23_L1)))
        (.seq (.region false [⟨(some 27), .move (.tmp 3), none, false⟩,
              ⟨(some 2), .move (.tmp 27), none, false⟩])
          (.ret))))
theorem text23 : FnText Try.prog 23 [] 28 1 ac23 [(2, none)] :=
  ⟨Try.call23, follows, Try.f23, _, Try.func23, rfl, rfl, by decide, by kernel_rfl, by kernel_rfl⟩

def ac52_L1 : AC :=
  .seq (.seq (.region false [⟨(some 5), .move (.tmp 4), none, false⟩,
          ⟨(some 6), .move (.tmp 0), none, false⟩,
          ⟨(some 7), .bi .len [28].toArray 3 [(.tmp 6)], none, false⟩,
          ⟨(some 8), .bin .lss 3 (.tmp 5) (.tmp 7), none, false⟩])
      (.cond (.tmp 8)
        (.skip)
        (.exit 0)))
    (.seq (.block 1 (.seq (.region false [⟨(some 11), .move (.tmp 3), none, false⟩,
              ⟨(some 12), .move (.tmp 0), none, false⟩,
              ⟨(some 13), .move (.tmp 4), none, false⟩,
              ⟨(some 14), .iaddr 5 (.tmp 12) (.tmp 13), none, false⟩,
              ⟨(some 15), .load 5 true (.tmp 14), none, false⟩,
              ⟨(some 16), .bslice false 40 5 false [(.tmp 15)], none, false⟩,
              ⟨(some 17), .append 28 40 5 88 (.tmp 11) (.tmp 16), none, false⟩,
              ⟨(some 3), .move (.tmp 17), none, false⟩])
          (.seq (.region false [⟨(some 18), .move (.tmp 3), none, false⟩,
                ⟨(some 19), .move (.tmp 0), none, false⟩,
                ⟨(some 20), .move (.tmp 4), none, false⟩,
                ⟨(some 21), .iaddr 5 (.tmp 19) (.tmp 20), none, false⟩,
                ⟨(some 22), .faddr 3 1 false (.tmp 21), none, false⟩,
                ⟨(some 23), .load 1 false (.tmp 22), none, false⟩,
                ⟨(some 24), .call (.func 52) [(.tmp 23)], none, false⟩,
                ⟨(some 25), .append 28 40 5 88 (.tmp 18) (.tmp 24), none, false⟩,
                ⟨(some 3), .move (.tmp 25), none, false⟩])
            (.region false [⟨(some 26), .move (.tmp 3), none, false⟩,
                ⟨(some 27), .move (.tmp 0), none, false⟩,
                ⟨(some 28), .move (.tmp 4), none, false⟩,
                ⟨(some 29), .iaddr 5 (.tmp 27) (.tmp 28), none, false⟩,
                ⟨(some 30), .faddr 4 1 false (.tmp 29), none, false⟩,
                ⟨(some 31), .load 1 false (.tmp 30), none, false⟩,
                ⟨(some 32), .call (.func 52) [(.tmp 31)], none, false⟩,
                ⟨(some 33), .append 28 40 5 88 (.tmp 26) (.tmp 32), none, false⟩,
                ⟨(some 3), .move (.tmp 33), none, false⟩]))))
      (.region false [⟨(some 9), .move (.tmp 4), none, false⟩,
          ⟨(some 10), .bin .add 3 (.tmp 9) (.const (.int .i64 1)), none, false⟩,
          ⟨(some 4), .move (.tmp 10), none, false⟩]))
/-- patchbay/patchbayref20.Preorder -/
def ac52 : AC :=
  .seq (.region false [⟨(some 2), .move (.const (.slice none 0 0)), none, false⟩])
    (.seq (.region false [⟨(some 3), .move (.const (.slice none 0 0)), none, false⟩])
      (.seq (.seq (.region false [⟨(some 4), .move (.const (.int .i64 0)), none, false⟩])
          (.block 0 (.loop ac52_L1)))
        (.seq (.region false [⟨(some 34), .move (.tmp 3), none, false⟩,
              ⟨(some 2), .move (.tmp 34), none, false⟩])
          (.ret))))
theorem text52 : FnText Try.prog 52 [] 35 1 ac52 [(2, none)] :=
  ⟨Try.call52, follows, Try.f52, _, Try.func52, rfl, rfl, by decide, by kernel_rfl, by kernel_rfl⟩

def ac89_G1 : List AOper :=
  [⟨(some 7), .move (.tmp 0), (some (6, true)), false⟩,
    ⟨(some 8), .bin .leq 3 (.tmp 7) (.const (.int .i64 4)), (some (6, true)), false⟩,
    ⟨(some 9), .pick (.tmp 6) (.tmp 8) (.const (.bool false)), none, false⟩]
def ac89_G2 : List AOper :=
  [⟨(some 14), .move (.tmp 0), (some (13, true)), false⟩,
    ⟨(some 15), .bin .leq 3 (.tmp 14) (.const (.int .i64 8)), (some (13, true)), false⟩,
    ⟨(some 16), .pick (.tmp 13) (.tmp 15) (.const (.bool false)), none, false⟩]
def ac89_G3 : List AOper :=
  [⟨(some 21), .move (.tmp 0), (some (20, true)), false⟩,
    ⟨(some 22), .bin .leq 3 (.tmp 21) (.const (.int .i64 16)), (some (20, true)), false⟩,
    ⟨(some 23), .pick (.tmp 20) (.tmp 22) (.const (.bool false)), none, false⟩]
/-- patchbay/patchbayref13.Arity -/
def ac89 : AC :=
  .seq (.region false [⟨(some 2), .move (.const (.int .i64 0)), none, false⟩])
    (.seq (.block 0 (.seq (.region false (⟨(some 4), .move (.tmp 0), none, false⟩ :: ⟨(some 5), .bin .geq 3 (.tmp 4) (.const (.int .i64 1)), none, false⟩ :: ⟨(some 6), .move (.tmp 5), none, false⟩ :: (ac89_G1 ++ [⟨(some 3), .move (.tmp 9), none, false⟩])))
          (.cond (.tmp 3)
            (.seq (.region false [⟨(some 2), .move (.const (.int .i64 0)), none, false⟩])
              (.ret))
            (.seq (.region false (⟨(some 11), .move (.tmp 0), none, false⟩ :: ⟨(some 12), .bin .geq 3 (.tmp 11) (.const (.int .i64 5)), none, false⟩ :: ⟨(some 13), .move (.tmp 12), none, false⟩ :: (ac89_G2 ++ [⟨(some 10), .move (.tmp 16), none, false⟩])))
              (.cond (.tmp 10)
                (.seq (.region false [⟨(some 2), .move (.const (.int .i64 1)), none, false⟩])
                  (.ret))
                (.seq (.region false (⟨(some 18), .move (.tmp 0), none, false⟩ :: ⟨(some 19), .bin .geq 3 (.tmp 18) (.const (.int .i64 9)), none, false⟩ :: ⟨(some 20), .move (.tmp 19), none, false⟩ :: (ac89_G3 ++ [⟨(some 17), .move (.tmp 23), none, false⟩])))
                  (.cond (.tmp 17)
                    (.seq (.region false [⟨(some 2), .move (.const (.int .i64 2)), none, false⟩])
                      (.ret))
                    (.seq (.region false [⟨(some 25), .move (.tmp 0), none, false⟩,
                          ⟨(some 26), .bin .eql 3 (.tmp 25) (.const (.int .i64 17)), none, false⟩,
                          ⟨(some 24), .move (.tmp 26), none, false⟩])
                      (.cond (.tmp 24)
                        (.seq (.region false [⟨(some 2), .move (.const (.int .i64 3)), none, false⟩])
                          (.ret))
                        (.skip))))))))))
      (.seq (.region false [⟨(some 2), .move (.const (.int .i64 (-1))), none, false⟩])
        (.ret)))
theorem text89 : FnText Try.prog 89 [] 27 1 ac89 [(2, none)] :=
  ⟨Try.call89, follows, Try.f89, _, Try.func89, rfl, rfl, by decide, by kernel_rfl, by kernel_rfl⟩

def ac95_G1 : List AOper :=
  [⟨(some 7), .move (.tmp 0), (some (6, false)), false⟩,
    ⟨(some 8), .bin .gtr 3 (.tmp 7) (.const (.int .i64 32)), (some (6, false)), false⟩,
    ⟨(some 9), .pick (.tmp 6) (.const (.bool true)) (.tmp 8), none, false⟩]
/-- patchbay/patchbayref13.wide -/
def ac95 : AC :=
  .seq (.region false [⟨(some 2), .move (.const (.int .i64 0)), none, false⟩,
        ⟨(some 3), .move (.const (.int .i64 0)), none, false⟩])
    (.seq (.seq (.region false (⟨(some 4), .move (.tmp 0), none, false⟩ :: ⟨(some 5), .bin .lss 3 (.tmp 4) (.const (.int .i64 1)), none, false⟩ :: ⟨(some 6), .move (.tmp 5), none, false⟩ :: (ac95_G1 ++ [])))
        (.cond (.tmp 9)
          (.seq (.region false [⟨(some 2), .move (.const (.int .i64 0)), none, false⟩,
                ⟨(some 3), .move (.const (.int .i64 10)), none, false⟩])
            (.ret))
          (.skip)))
      (.seq (.region false [⟨(some 10), .move (.tmp 0), none, false⟩,
            ⟨(some 2), .move (.tmp 10), none, false⟩,
            ⟨(some 3), .move (.const (.int .i64 0)), none, false⟩])
        (.ret)))
theorem text95 : FnText Try.prog 95 [] 11 1 ac95 [(2, none), (3, none)] :=
  ⟨Try.call95, follows, Try.f95, _, Try.func95, rfl, rfl, by decide, by kernel_rfl, by kernel_rfl⟩

def ac99_G1 : List AOper :=
  [⟨(some 6), .move (.tmp 0), (some (5, true)), false⟩,
    ⟨(some 7), .bin .leq 3 (.tmp 6) (.const (.int .i64 32)), (some (5, true)), false⟩,
    ⟨(some 8), .pick (.tmp 5) (.tmp 7) (.const (.bool false)), none, false⟩]
/-- patchbay/patchbayref01.valid -/
def ac99 : AC :=
  .seq (.region false [⟨(some 2), .move (.const (.bool false)), none, false⟩])
    (.seq (.region false (⟨(some 3), .move (.tmp 0), none, false⟩ :: ⟨(some 4), .bin .geq 3 (.tmp 3) (.const (.int .i64 1)), none, false⟩ :: ⟨(some 5), .move (.tmp 4), none, false⟩ :: (ac99_G1 ++ [⟨(some 2), .move (.tmp 8), none, false⟩])))
      (.ret))
theorem text99 : FnText Try.prog 99 [] 9 1 ac99 [(2, none)] :=
  ⟨Try.call99, follows, Try.f99, _, Try.func99, rfl, rfl, by decide, by kernel_rfl, by kernel_rfl⟩

def ac100_L1 : AC :=
  .seq (.seq (.region false [⟨(some 5), .move (.tmp 4), none, false⟩,
          ⟨(some 6), .move (.tmp 0), none, false⟩,
          ⟨(some 7), .bin .lss 3 (.tmp 5) (.tmp 6), none, false⟩])
      (.cond (.tmp 7)
        (.skip)
        (.exit 0)))
    (.seq (.block 1 (.region false [⟨(some 10), .move (.tmp 3), none, false⟩,
            ⟨(some 11), .bin .mul 154 (.const (.int .u64 2)) (.tmp 10), none, false⟩,
            ⟨(some 3), .move (.tmp 11), none, false⟩]))
      (.region false [⟨(some 8), .move (.tmp 4), none, false⟩,
          ⟨(some 9), .bin .add 3 (.tmp 8) (.const (.int .i64 1)), none, false⟩,
          ⟨(some 4), .move (.tmp 9), none, false⟩]))
/-- patchbay/patchbayref01.power -/
def ac100 : AC :=
  .seq (.region false [⟨(some 2), .move (.const (.int .u64 0)), none, false⟩])
    (.seq (.region false [⟨(some 3), .move (.const (.int .u64 1)), none, false⟩])
      (.seq (.seq (.region false [⟨(some 4), .move (.const (.int .i64 0)), none, false⟩])
          (.block 0 (.loop ac100_L1)))
        (.seq (.region false [⟨(some 12), .move (.tmp 3), none, false⟩,
              ⟨(some 2), .move (.tmp 12), none, false⟩])
          (.ret))))
theorem text100 : FnText Try.prog 100 [] 13 1 ac100 [(2, none)] :=
  ⟨Try.call100, follows, Try.f100, _, Try.func100, rfl, rfl, by decide, by kernel_rfl, by kernel_rfl⟩


/-- patchbay/patchbayref01.Mask -/
def ac96 : AC :=
  .seq (.region false [⟨(some 2), .move (.const (.int .u32 0)), none, false⟩])
    (.seq (.seq (.region false [⟨(some 3), .move (.tmp 0), none, false⟩,
            ⟨(some 4), .call (.func 99) [(.tmp 3)], none, false⟩,
            ⟨(some 5), .un .not (.tmp 4), none, false⟩])
        (.cond (.tmp 5)
          (.seq (.region false [⟨(some 2), .move (.const (.int .u32 0)), none, false⟩])
            (.ret))
          (.skip)))
      (.seq (.region false [⟨(some 6), .move (.tmp 0), none, false⟩,
            ⟨(some 7), .call (.func 100) [(.tmp 6)], none, false⟩,
            ⟨(some 8), .bin .sub 154 (.tmp 7) (.const (.int .u64 1)), none, false⟩,
            ⟨(some 9), .conv 154 147 (.tmp 8), none, false⟩,
            ⟨(some 2), .move (.tmp 9), none, false⟩])
        (.ret)))
theorem text96 : FnText Try.prog 96 [] 10 1 ac96 [(2, none)] :=
  ⟨Try.call96, follows, Try.f96, _, Try.func96, rfl, rfl, by decide, by kernel_rfl, by kernel_rfl⟩

def ac97_G1 : List AOper :=
  [⟨(some 16), .faddr 0 1 false (.tmp 3), (some (15, false)), false⟩,
    ⟨(some 17), .load 1 false (.tmp 16), (some (15, false)), false⟩,
    ⟨(some 18), .faddr 1 1 false (.tmp 2), (some (15, false)), false⟩,
    ⟨(some 19), .load 1 false (.tmp 18), (some (15, false)), false⟩,
    ⟨(some 20), .bi .len [22].toArray 3 [(.tmp 19)], (some (15, false)), false⟩,
    ⟨(some 21), .bin .geq 3 (.tmp 17) (.tmp 20), (some (15, false)), false⟩,
    ⟨(some 22), .pick (.tmp 15) (.const (.bool true)) (.tmp 21), none, false⟩]
def ac97_G2 : List AOper :=
  [⟨(some 34), .faddr 1 1 false (.tmp 3), (some (33, false)), false⟩,
    ⟨(some 35), .load 1 false (.tmp 34), (some (33, false)), false⟩,
    ⟨(some 36), .move (.tmp 6), (some (33, false)), false⟩,
    ⟨(some 37), .bi .len [23].toArray 3 [(.tmp 36)], (some (33, false)), false⟩,
    ⟨(some 38), .bin .geq 3 (.tmp 35) (.tmp 37), (some (33, false)), false⟩,
    ⟨(some 39), .pick (.tmp 33) (.const (.bool true)) (.tmp 38), none, false⟩]
/-- patchbay/patchbayref13.Declared -/
def ac97 : AC :=
  .seq (.region false [⟨(some 2), .box false 31 (.tmp 0), none, false⟩,
        ⟨(some 3), .box false 89 (.tmp 1), none, false⟩,
        ⟨(some 4), .move (.const (.int .i64 0)), none, false⟩,
        ⟨(some 5), .move (.const (.bool false)), none, false⟩])
    (.seq (.region false [⟨(some 7), .faddr 2 1 false (.tmp 2), none, false⟩,
          ⟨(some 8), .load 1 false (.tmp 7), none, false⟩,
          ⟨(some 6), .move (.tmp 8), none, false⟩])
      (.seq (.seq (.region false [⟨(some 9), .faddr 0 1 false (.tmp 3), none, false⟩,
              ⟨(some 10), .load 1 false (.tmp 9), none, false⟩,
              ⟨(some 11), .bin .neq 3 (.tmp 10) (.const (.int .i64 (-1))), none, false⟩])
          (.cond (.tmp 11)
            (.seq (.seq (.region false (⟨(some 12), .faddr 0 1 false (.tmp 3), none, false⟩ :: ⟨(some 13), .load 1 false (.tmp 12), none, false⟩ :: ⟨(some 14), .bin .lss 3 (.tmp 13) (.const (.int .i64 0)), none, false⟩ :: ⟨(some 15), .move (.tmp 14), none, false⟩ :: (ac97_G1 ++ [])))
                (.cond (.tmp 22)
                  (.seq (.region false [⟨(some 4), .move (.const (.int .i64 0)), none, false⟩,
                        ⟨(some 5), .move (.const (.bool false)), none, false⟩])
                    (.ret))
                  (.skip)))
              (.region false [⟨(some 23), .faddr 1 1 false (.tmp 2), none, false⟩,
                  ⟨(some 24), .load 1 false (.tmp 23), none, false⟩,
                  ⟨(some 25), .faddr 0 1 false (.tmp 3), none, false⟩,
                  ⟨(some 26), .load 1 false (.tmp 25), none, false⟩,
                  ⟨(some 27), .iaddr 2 (.tmp 24) (.tmp 26), none, false⟩,
                  ⟨(some 28), .faddr 1 1 false (.tmp 27), none, false⟩,
                  ⟨(some 29), .load 1 false (.tmp 28), none, false⟩,
                  ⟨(some 6), .move (.tmp 29), none, false⟩]))
            (.skip)))
        (.seq (.seq (.region false (⟨(some 30), .faddr 1 1 false (.tmp 3), none, false⟩ :: ⟨(some 31), .load 1 false (.tmp 30), none, false⟩ :: ⟨(some 32), .bin .lss 3 (.tmp 31) (.const (.int .i64 0)), none, false⟩ :: ⟨(some 33), .move (.tmp 32), none, false⟩ :: (ac97_G2 ++ [])))
            (.cond (.tmp 39)
              (.seq (.region false [⟨(some 4), .move (.const (.int .i64 0)), none, false⟩,
                    ⟨(some 5), .move (.const (.bool false)), none, false⟩])
                (.ret))
              (.skip)))
          (.seq (.region false [⟨(some 40), .move (.tmp 6), none, false⟩,
                ⟨(some 41), .faddr 1 1 false (.tmp 3), none, false⟩,
                ⟨(some 42), .load 1 false (.tmp 41), none, false⟩,
                ⟨(some 43), .iaddr 2 (.tmp 40) (.tmp 42), none, false⟩,
                ⟨(some 44), .faddr 1 1 false (.tmp 43), none, false⟩,
                ⟨(some 45), .load 1 false (.tmp 44), none, false⟩,
                ⟨(some 4), .move (.tmp 45), none, false⟩,
                ⟨(some 5), .move (.const (.bool true)), none, false⟩])
            (.ret)))))
theorem text97 : FnText Try.prog 97 [] 46 2 ac97 [(4, none), (5, none)] :=
  ⟨Try.call97, follows, Try.f97, _, Try.func97, rfl, rfl, by decide, by kernel_rfl, by kernel_rfl⟩

def ac90_G2 : List AOper :=
  [⟨(some 27), .faddr 1 1 false (.tmp 2), (some (26, false)), false⟩,
    ⟨(some 28), .load 1 false (.tmp 27), (some (26, false)), false⟩,
    ⟨(some 29), .move (.tmp 6), (some (26, false)), false⟩,
    ⟨(some 30), .call (.func 96) [(.tmp 29)], (some (26, false)), false⟩,
    ⟨(some 31), .conv 147 3 (.tmp 30), (some (26, false)), false⟩,
    ⟨(some 32), .bin .gtr 3 (.tmp 28) (.tmp 31), (some (26, false)), false⟩,
    ⟨(some 33), .pick (.tmp 26) (.const (.bool true)) (.tmp 32), (some (22, true)), false⟩]
def ac90_G1 : List AOper :=
  (⟨(some 23), .faddr 1 1 false (.tmp 2), (some (22, true)), false⟩ :: ⟨(some 24), .load 1 false (.tmp 23), (some (22, true)), false⟩ :: ⟨(some 25), .bin .lss 3 (.tmp 24) (.const (.int .i64 0)), (some (22, true)), false⟩ :: ⟨(some 26), .move (.tmp 25), (some (22, true)), false⟩ :: (ac90_G2 ++ [⟨(some 34), .pick (.tmp 22) (.tmp 33) (.const (.bool false)), none, false⟩]))
def ac90_G3 : List AOper :=
  [⟨(some 62), .faddr 1 1 false (.tmp 2), (some (61, false)), false⟩,
    ⟨(some 63), .load 1 false (.tmp 62), (some (61, false)), false⟩,
    ⟨(some 64), .faddr 9 1 false (.tmp 3), (some (61, false)), false⟩,
    ⟨(some 65), .load 1 false (.tmp 64), (some (61, false)), false⟩,
    ⟨(some 66), .bi .len [23].toArray 3 [(.tmp 65)], (some (61, false)), false⟩,
    ⟨(some 67), .bin .geq 3 (.tmp 63) (.tmp 66), (some (61, false)), false⟩,
    ⟨(some 68), .pick (.tmp 61) (.const (.bool true)) (.tmp 67), none, false⟩]
def ac90_G4 : List AOper :=
  [⟨(some 83), .faddr 1 1 false (.tmp 2), (some (82, false)), false⟩,
    ⟨(some 84), .load 1 false (.tmp 83), (some (82, false)), false⟩,
    ⟨(some 85), .faddr 0 9 true (.tmp 3), (some (82, false)), false⟩,
    ⟨(some 86), .faddr 1 1 false (.tmp 85), (some (82, false)), false⟩,
    ⟨(some 87), .load 1 false (.tmp 86), (some (82, false)), false⟩,
    ⟨(some 88), .bi .len [22].toArray 3 [(.tmp 87)], (some (82, false)), false⟩,
    ⟨(some 89), .bin .geq 3 (.tmp 84) (.tmp 88), (some (82, false)), false⟩,
    ⟨(some 90), .pick (.tmp 82) (.const (.bool true)) (.tmp 89), none, false⟩]
/-- patchbay/patchbayref13.leaf -/
def ac90 : AC :=
  .seq (.region false [⟨(some 2), .box false 106 (.tmp 0), none, false⟩,
        ⟨(some 3), .box false 122 (.tmp 1), none, false⟩,
        ⟨(some 4), .move (.const (.int .i64 0)), none, false⟩,
        ⟨(some 5), .move (.const (.int .i64 0)), none, false⟩])
    (.seq (.seq (.region false [⟨(some 10), .faddr 0 1 false (.tmp 2), none, false⟩,
            ⟨(some 11), .load 1 false (.tmp 10), none, false⟩])
        (.block 0 (.seq (.region false [⟨(some 13), .bin .eql 3 (.tmp 11) (.const (.int .i64 1)), none, false⟩,
                ⟨(some 12), .move (.tmp 13), none, false⟩])
            (.cond (.tmp 12)
              (.seq (.region false [⟨(some 15), .faddr 2 1 false (.tmp 2), none, false⟩,
                    ⟨(some 16), .load 1 false (.tmp 15), none, false⟩,
                    ⟨(some 17), .call (.func 95) [(.tmp 16)], none, false⟩,
                    ⟨(some 14), .move (.tmp 17), none, false⟩,
                    ⟨(some 18), .extract (.tmp 14) 0, none, false⟩,
                    ⟨(some 19), .extract (.tmp 14) 1, none, false⟩,
                    ⟨(some 6), .move (.tmp 18), none, false⟩,
                    ⟨(some 7), .move (.tmp 19), none, false⟩])
                (.seq (.seq (.region true (⟨(some 20), .move (.tmp 7), none, false⟩ :: ⟨(some 21), .bin .eql 35 (.tmp 20) (.const (.int .i64 0)), none, false⟩ :: ⟨(some 22), .move (.tmp 21), none, false⟩ :: (ac90_G1 ++ [])))
                    (.cond (.tmp 34)
                      (.seq (.region false [⟨(some 4), .move (.const (.int .i64 0)), none, false⟩,
                            ⟨(some 5), .move (.const (.int .i64 9)), none, false⟩])
                        (.ret))
                      (.skip)))
                  (.seq (.region false [⟨(some 35), .move (.tmp 6), none, false⟩,
                        ⟨(some 36), .move (.tmp 7), none, false⟩,
                        ⟨(some 4), .move (.tmp 35), none, false⟩,
                        ⟨(some 5), .move (.tmp 36), none, false⟩])
                    (.ret))))
              (.seq (.region false [⟨(some 38), .bin .eql 3 (.tmp 11) (.const (.int .i64 2)), none, false⟩,
                    ⟨(some 37), .move (.tmp 38), none, false⟩])
                (.cond (.tmp 37)
                  (.seq (.region false [⟨(some 40), .faddr 0 9 true (.tmp 3), none, false⟩,
                        ⟨(some 41), .load 9 true (.tmp 40), none, false⟩,
                        ⟨(some 42), .faddr 1 1 false (.tmp 2), none, false⟩,
                        ⟨(some 43), .load 1 false (.tmp 42), none, false⟩,
                        ⟨(some 44), .faddr 2 1 false (.tmp 2), none, false⟩,
                        ⟨(some 45), .load 1 false (.tmp 44), none, false⟩,
                        ⟨(some 46), .build [(.int .i64 0), (.int .i64 0)] [(0, 1, (.tmp 43)), (1, 1, (.tmp 45))], none, false⟩,
                        ⟨(some 47), .call (.func 97) [(.tmp 41), (.tmp 46)], none, false⟩,
                        ⟨(some 39), .move (.tmp 47), none, false⟩,
                        ⟨(some 48), .extract (.tmp 39) 0, none, false⟩,
                        ⟨(some 49), .extract (.tmp 39) 1, none, false⟩,
                        ⟨(some 8), .move (.tmp 48), none, false⟩,
                        ⟨(some 9), .move (.tmp 49), none, false⟩])
                    (.seq (.seq (.region false [⟨(some 50), .move (.tmp 9), none, false⟩,
                            ⟨(some 51), .un .not (.tmp 50), none, false⟩])
                        (.cond (.tmp 51)
                          (.seq (.region false [⟨(some 4), .move (.const (.int .i64 0)), none, false⟩,
                                ⟨(some 5), .move (.const (.int .i64 8)), none, false⟩])
                            (.ret))
                          (.skip)))
                      (.seq (.region false [⟨(some 52), .move (.tmp 8), none, false⟩,
                            ⟨(some 53), .call (.func 95) [(.tmp 52)], none, false⟩,
                            ⟨(some 54), .extract (.tmp 53) 0, none, false⟩,
                            ⟨(some 55), .extract (.tmp 53) 1, none, false⟩,
                            ⟨(some 4), .move (.tmp 54), none, false⟩,
                            ⟨(some 5), .move (.tmp 55), none, false⟩])
                        (.ret))))
                  (.seq (.region false [⟨(some 57), .bin .eql 3 (.tmp 11) (.const (.int .i64 3)), none, false⟩,
                        ⟨(some 56), .move (.tmp 57), none, false⟩])
                    (.cond (.tmp 56)
                      (.seq (.seq (.region false (⟨(some 58), .faddr 1 1 false (.tmp 2), none, false⟩ :: ⟨(some 59), .load 1 false (.tmp 58), none, false⟩ :: ⟨(some 60), .bin .lss 3 (.tmp 59) (.const (.int .i64 0)), none, false⟩ :: ⟨(some 61), .move (.tmp 60), none, false⟩ :: (ac90_G3 ++ [])))
                          (.cond (.tmp 68)
                            (.seq (.region false [⟨(some 4), .move (.const (.int .i64 0)), none, false⟩,
                                  ⟨(some 5), .move (.const (.int .i64 8)), none, false⟩])
                              (.ret))
                            (.skip)))
                        (.seq (.region false [⟨(some 69), .faddr 9 1 false (.tmp 3), none, false⟩,
                              ⟨(some 70), .load 1 false (.tmp 69), none, false⟩,
                              ⟨(some 71), .faddr 1 1 false (.tmp 2), none, false⟩,
                              ⟨(some 72), .load 1 false (.tmp 71), none, false⟩,
                              ⟨(some 73), .iaddr 2 (.tmp 70) (.tmp 72), none, false⟩,
                              ⟨(some 74), .faddr 1 1 false (.tmp 73), none, false⟩,
                              ⟨(some 75), .load 1 false (.tmp 74), none, false⟩,
                              ⟨(some 76), .call (.func 95) [(.tmp 75)], none, false⟩,
                              ⟨(some 77), .extract (.tmp 76) 0, none, false⟩,
                              ⟨(some 78), .extract (.tmp 76) 1, none, false⟩,
                              ⟨(some 4), .move (.tmp 77), none, false⟩,
                              ⟨(some 5), .move (.tmp 78), none, false⟩])
                          (.ret)))
                      (.skip)))))))))
      (.seq (.seq (.region false (⟨(some 79), .faddr 1 1 false (.tmp 2), none, false⟩ :: ⟨(some 80), .load 1 false (.tmp 79), none, false⟩ :: ⟨(some 81), .bin .lss 3 (.tmp 80) (.const (.int .i64 0)), none, false⟩ :: ⟨(some 82), .move (.tmp 81), none, false⟩ :: (ac90_G4 ++ [])))
          (.cond (.tmp 90)
            (.seq (.region false [⟨(some 4), .move (.const (.int .i64 0)), none, false⟩,
                  ⟨(some 5), .move (.const (.int .i64 8)), none, false⟩])
              (.ret))
            (.skip)))
        (.seq (.region false [⟨(some 4), .move (.const (.int .i64 1)), none, false⟩,
              ⟨(some 5), .move (.const (.int .i64 0)), none, false⟩])
          (.ret))))
theorem text90 : FnText Try.prog 90 [] 91 2 ac90 [(4, none), (5, none)] :=
  ⟨Try.call90, follows, Try.f90, _, Try.func90, rfl, rfl, by decide, by kernel_rfl, by kernel_rfl⟩

def ac91_G1 : List AOper :=
  [⟨(some 20), .faddr 1 1 false (.tmp 2), (some (19, false)), false⟩,
    ⟨(some 21), .load 1 false (.tmp 20), (some (19, false)), false⟩,
    ⟨(some 22), .bin .gtr 3 (.tmp 21) (.const (.int .i64 31)), (some (19, false)), false⟩,
    ⟨(some 23), .pick (.tmp 19) (.const (.bool true)) (.tmp 22), none, false⟩]
def ac91_G2 : List AOper :=
  [⟨(some 38), .faddr 2 1 false (.tmp 2), (some (37, false)), false⟩,
    ⟨(some 39), .load 1 false (.tmp 38), (some (37, false)), false⟩,
    ⟨(some 40), .bin .gtr 3 (.tmp 39) (.const (.int .i64 32)), (some (37, false)), false⟩,
    ⟨(some 41), .pick (.tmp 37) (.const (.bool true)) (.tmp 40), none, false⟩]
def ac91_G3 : List AOper :=
  [⟨(some 43), .faddr 1 1 false (.tmp 2), (some (42, false)), false⟩,
    ⟨(some 44), .load 1 false (.tmp 43), (some (42, false)), false⟩,
    ⟨(some 45), .move (.tmp 1), (some (42, false)), false⟩,
    ⟨(some 46), .iaddr 1 (.tmp 45) (.const (.int .i64 0)), (some (42, false)), false⟩,
    ⟨(some 47), .load 1 false (.tmp 46), (some (42, false)), false⟩,
    ⟨(some 48), .faddr 2 1 false (.tmp 2), (some (42, false)), false⟩,
    ⟨(some 49), .load 1 false (.tmp 48), (some (42, false)), false⟩,
    ⟨(some 50), .bin .sub 3 (.tmp 47) (.tmp 49), (some (42, false)), false⟩,
    ⟨(some 51), .bin .gtr 3 (.tmp 44) (.tmp 50), (some (42, false)), false⟩,
    ⟨(some 52), .pick (.tmp 42) (.const (.bool true)) (.tmp 51), none, false⟩]
def ac91_G4 : List AOper :=
  [⟨(some 74), .move (.tmp 1), (some (73, false)), false⟩,
    ⟨(some 75), .iaddr 1 (.tmp 74) (.const (.int .i64 1)), (some (73, false)), false⟩,
    ⟨(some 76), .load 1 false (.tmp 75), (some (73, false)), false⟩,
    ⟨(some 77), .move (.tmp 1), (some (73, false)), false⟩,
    ⟨(some 78), .iaddr 1 (.tmp 77) (.const (.int .i64 2)), (some (73, false)), false⟩,
    ⟨(some 79), .load 1 false (.tmp 78), (some (73, false)), false⟩,
    ⟨(some 80), .bin .neq 3 (.tmp 76) (.tmp 79), (some (73, false)), false⟩,
    ⟨(some 81), .pick (.tmp 73) (.const (.bool true)) (.tmp 80), none, false⟩]
def ac91_G5 : List AOper :=
  [⟨(some 98), .faddr 0 1 false (.tmp 2), (some (97, false)), false⟩,
    ⟨(some 99), .load 1 false (.tmp 98), (some (97, false)), false⟩,
    ⟨(some 100), .bin .eql 3 (.tmp 99) (.const (.int .i64 16)), (some (97, false)), false⟩,
    ⟨(some 101), .pick (.tmp 97) (.const (.bool true)) (.tmp 100), none, false⟩]
/-- patchbay/patchbayref13.operator -/
def ac91 : AC :=
  .seq (.region false [⟨(some 2), .box false 106 (.tmp 0), none, false⟩,
        ⟨(some 4), .move (.const (.int .i64 0)), none, false⟩,
        ⟨(some 5), .move (.const (.int .i64 0)), none, false⟩])
    (.seq (.seq (.region false [⟨(some 6), .faddr 0 1 false (.tmp 2), none, false⟩,
            ⟨(some 7), .load 1 false (.tmp 6), none, false⟩])
        (.block 0 (.seq (.region false [⟨(some 9), .bin .eql 3 (.tmp 7) (.const (.int .i64 5)), none, false⟩,
                ⟨(some 8), .move (.tmp 9), none, false⟩])
            (.cond (.tmp 8)
              (.seq (.region false [⟨(some 10), .move (.tmp 1), none, false⟩,
                    ⟨(some 11), .iaddr 1 (.tmp 10) (.const (.int .i64 0)), none, false⟩,
                    ⟨(some 12), .load 1 false (.tmp 11), none, false⟩,
                    ⟨(some 4), .move (.tmp 12), none, false⟩,
                    ⟨(some 5), .move (.const (.int .i64 0)), none, false⟩])
                (.ret))
              (.seq (.seq (.region false [⟨(some 14), .bin .eql 3 (.tmp 7) (.const (.int .i64 6)), none, false⟩,
                      ⟨(some 13), .move (.tmp 14), none, false⟩])
                  (.cond (.tmp 13)
                    (.skip)
                    (.region false [⟨(some 15), .bin .eql 3 (.tmp 7) (.const (.int .i64 7)), none, false⟩,
                        ⟨(some 13), .move (.tmp 15), none, false⟩])))
                (.cond (.tmp 13)
                  (.seq (.seq (.region false (⟨(some 16), .faddr 1 1 false (.tmp 2), none, false⟩ :: ⟨(some 17), .load 1 false (.tmp 16), none, false⟩ :: ⟨(some 18), .bin .lss 3 (.tmp 17) (.const (.int .i64 0)), none, false⟩ :: ⟨(some 19), .move (.tmp 18), none, false⟩ :: (ac91_G1 ++ [])))
                      (.cond (.tmp 23)
                        (.seq (.region false [⟨(some 4), .move (.const (.int .i64 0)), none, false⟩,
                              ⟨(some 5), .move (.const (.int .i64 9)), none, false⟩])
                          (.ret))
                        (.skip)))
                    (.seq (.region false [⟨(some 24), .move (.tmp 1), none, false⟩,
                          ⟨(some 25), .iaddr 1 (.tmp 24) (.const (.int .i64 0)), none, false⟩,
                          ⟨(some 26), .load 1 false (.tmp 25), none, false⟩,
                          ⟨(some 4), .move (.tmp 26), none, false⟩,
                          ⟨(some 5), .move (.const (.int .i64 0)), none, false⟩])
                      (.ret)))
                  (.seq (.region false [⟨(some 28), .bin .eql 3 (.tmp 7) (.const (.int .i64 8)), none, false⟩,
                        ⟨(some 27), .move (.tmp 28), none, false⟩])
                    (.cond (.tmp 27)
                      (.seq (.block 1 (.seq (.region false [⟨(some 30), .faddr 1 1 false (.tmp 2), none, false⟩,
                                ⟨(some 31), .load 1 false (.tmp 30), none, false⟩,
                                ⟨(some 32), .bin .lss 3 (.tmp 31) (.const (.int .i64 0)), none, false⟩,
                                ⟨(some 29), .move (.tmp 32), none, false⟩])
                            (.cond (.tmp 29)
                              (.seq (.region false [⟨(some 4), .move (.const (.int .i64 0)), none, false⟩,
                                    ⟨(some 5), .move (.const (.int .i64 9)), none, false⟩])
                                (.ret))
                              (.seq (.region true (⟨(some 34), .faddr 2 1 false (.tmp 2), none, false⟩ :: ⟨(some 35), .load 1 false (.tmp 34), none, false⟩ :: ⟨(some 36), .bin .lss 3 (.tmp 35) (.const (.int .i64 1)), none, false⟩ :: ⟨(some 37), .move (.tmp 36), none, false⟩ :: (ac91_G2 ++ (⟨(some 42), .move (.tmp 41), none, false⟩ :: (ac91_G3 ++ [⟨(some 33), .move (.tmp 52), none, false⟩])))))
                                (.cond (.tmp 33)
                                  (.seq (.region false [⟨(some 4), .move (.const (.int .i64 0)), none, false⟩,
                                        ⟨(some 5), .move (.const (.int .i64 10)), none, false⟩])
                                    (.ret))
                                  (.skip))))))
                        (.seq (.region false [⟨(some 53), .faddr 2 1 false (.tmp 2), none, false⟩,
                              ⟨(some 54), .load 1 false (.tmp 53), none, false⟩,
                              ⟨(some 4), .move (.tmp 54), none, false⟩,
                              ⟨(some 5), .move (.const (.int .i64 0)), none, false⟩])
                          (.ret)))
                      (.seq (.region false [⟨(some 56), .bin .eql 3 (.tmp 7) (.const (.int .i64 14)), none, false⟩,
                            ⟨(some 55), .move (.tmp 56), none, false⟩])
                        (.cond (.tmp 55)
                          (.seq (.region true [⟨(some 57), .move (.tmp 1), none, false⟩,
                                ⟨(some 58), .iaddr 1 (.tmp 57) (.const (.int .i64 0)), none, false⟩,
                                ⟨(some 59), .load 1 false (.tmp 58), none, false⟩,
                                ⟨(some 60), .move (.tmp 1), none, false⟩,
                                ⟨(some 61), .iaddr 1 (.tmp 60) (.const (.int .i64 1)), none, false⟩,
                                ⟨(some 62), .load 1 false (.tmp 61), none, false⟩,
                                ⟨(some 63), .bin .add 3 (.tmp 59) (.tmp 62), none, false⟩,
                                ⟨(some 64), .call (.func 95) [(.tmp 63)], none, false⟩,
                                ⟨(some 65), .extract (.tmp 64) 0, none, false⟩,
                                ⟨(some 66), .extract (.tmp 64) 1, none, false⟩,
                                ⟨(some 4), .move (.tmp 65), none, false⟩,
                                ⟨(some 5), .move (.tmp 66), none, false⟩])
                            (.ret))
                          (.seq (.region false [⟨(some 68), .bin .eql 3 (.tmp 7) (.const (.int .i64 17)), none, false⟩,
                                ⟨(some 67), .move (.tmp 68), none, false⟩])
                            (.cond (.tmp 67)
                              (.seq (.seq (.region true (⟨(some 69), .move (.tmp 1), none, false⟩ :: ⟨(some 70), .iaddr 1 (.tmp 69) (.const (.int .i64 0)), none, false⟩ :: ⟨(some 71), .load 1 false (.tmp 70), none, false⟩ :: ⟨(some 72), .bin .neq 3 (.tmp 71) (.const (.int .i64 1)), none, false⟩ :: ⟨(some 73), .move (.tmp 72), none, false⟩ :: (ac91_G4 ++ [])))
                                  (.cond (.tmp 81)
                                    (.seq (.region false [⟨(some 4), .move (.const (.int .i64 0)), none, false⟩,
                                          ⟨(some 5), .move (.const (.int .i64 10)), none, false⟩])
                                      (.ret))
                                    (.skip)))
                                (.seq (.region false [⟨(some 82), .move (.tmp 1), none, false⟩,
                                      ⟨(some 83), .iaddr 1 (.tmp 82) (.const (.int .i64 1)), none, false⟩,
                                      ⟨(some 84), .load 1 false (.tmp 83), none, false⟩,
                                      ⟨(some 4), .move (.tmp 84), none, false⟩,
                                      ⟨(some 5), .move (.const (.int .i64 0)), none, false⟩])
                                  (.ret)))
                              (.skip)))))))))))))
      (.seq (.block 2 (.seq (.region true [⟨(some 86), .move (.tmp 1), none, false⟩,
                ⟨(some 87), .iaddr 1 (.tmp 86) (.const (.int .i64 0)), none, false⟩,
                ⟨(some 88), .load 1 false (.tmp 87), none, false⟩,
                ⟨(some 89), .move (.tmp 1), none, false⟩,
                ⟨(some 90), .iaddr 1 (.tmp 89) (.const (.int .i64 1)), none, false⟩,
                ⟨(some 91), .load 1 false (.tmp 90), none, false⟩,
                ⟨(some 92), .bin .neq 3 (.tmp 88) (.tmp 91), none, false⟩,
                ⟨(some 85), .move (.tmp 92), none, false⟩])
            (.cond (.tmp 85)
              (.seq (.region false [⟨(some 4), .move (.const (.int .i64 0)), none, false⟩,
                    ⟨(some 5), .move (.const (.int .i64 10)), none, false⟩])
                (.ret))
              (.seq (.region false (⟨(some 94), .faddr 0 1 false (.tmp 2), none, false⟩ :: ⟨(some 95), .load 1 false (.tmp 94), none, false⟩ :: ⟨(some 96), .bin .eql 3 (.tmp 95) (.const (.int .i64 15)), none, false⟩ :: ⟨(some 97), .move (.tmp 96), none, false⟩ :: (ac91_G5 ++ [⟨(some 93), .move (.tmp 101), none, false⟩])))
                (.cond (.tmp 93)
                  (.seq (.region false [⟨(some 4), .move (.const (.int .i64 1)), none, false⟩,
                        ⟨(some 5), .move (.const (.int .i64 0)), none, false⟩])
                    (.ret))
                  (.skip))))))
        (.seq (.region false [⟨(some 102), .move (.tmp 1), none, false⟩,
              ⟨(some 103), .iaddr 1 (.tmp 102) (.const (.int .i64 0)), none, false⟩,
              ⟨(some 104), .load 1 false (.tmp 103), none, false⟩,
              ⟨(some 4), .move (.tmp 104), none, false⟩,
              ⟨(some 5), .move (.const (.int .i64 0)), none, false⟩])
          (.ret))))
theorem text91 : FnText Try.prog 91 [] 105 2 ac91 [(4, none), (5, none)] :=
  ⟨Try.call91, follows, Try.f91, _, Try.func91, rfl, rfl, by decide, by kernel_rfl, by kernel_rfl⟩

def ac85_L1 : AC :=
  .seq (.seq (.region false [⟨(some 51), .move (.tmp 14), none, false⟩,
          ⟨(some 52), .move (.tmp 9), none, false⟩,
          ⟨(some 53), .bin .lss 3 (.tmp 51) (.tmp 52), none, false⟩])
      (.cond (.tmp 53)
        (.skip)
        (.exit 0)))
    (.seq (.block 1 (.seq (.region false [⟨(some 57), .move (.tmp 0), none, false⟩,
              ⟨(some 58), .move (.tmp 13), none, false⟩,
              ⟨(some 59), .load 10 true (.tmp 5), none, false⟩,
              ⟨(some 60), .call (.func 85) [(.tmp 57), (.tmp 58), (.tmp 59)], none, false⟩,
              ⟨(some 56), .move (.tmp 60), none, false⟩,
              ⟨(some 61), .extract (.tmp 56) 0, none, false⟩,
              ⟨(some 62), .extract (.tmp 56) 1, none, false⟩,
              ⟨(some 63), .extract (.tmp 56) 2, none, false⟩,
              ⟨(some 15), .move (.tmp 61), none, false⟩,
              ⟨(some 16), .move (.tmp 62), none, false⟩,
              ⟨(some 17), .move (.tmp 63), none, false⟩])
          (.seq (.seq (.region false [⟨(some 64), .move (.tmp 17), none, false⟩,
                  ⟨(some 65), .bin .neq 35 (.tmp 64) (.const (.int .i64 0)), none, false⟩])
              (.cond (.tmp 65)
                (.seq (.region false [⟨(some 66), .move (.tmp 16), none, false⟩,
                      ⟨(some 67), .move (.tmp 17), none, false⟩,
                      ⟨(some 6), .move (.const (.int .i64 0)), none, false⟩,
                      ⟨(some 7), .move (.tmp 66), none, false⟩,
                      ⟨(some 8), .move (.tmp 67), none, false⟩])
                  (.ret))
                (.skip)))
            (.seq (.region false [⟨(some 68), .move (.tmp 12), none, false⟩,
                  ⟨(some 69), .move (.tmp 15), none, false⟩,
                  ⟨(some 70), .bslice false 3 1 false [(.tmp 69)], none, false⟩,
                  ⟨(some 71), .append 29 3 1 8 (.tmp 68) (.tmp 70), none, false⟩,
                  ⟨(some 12), .move (.tmp 71), none, false⟩])
              (.region false [⟨(some 72), .move (.tmp 16), none, false⟩,
                  ⟨(some 13), .move (.tmp 72), none, false⟩])))))
      (.region false [⟨(some 54), .move (.tmp 14), none, false⟩,
          ⟨(some 55), .bin .add 3 (.tmp 54) (.const (.int .i64 1)), none, false⟩,
          ⟨(some 14), .move (.tmp 55), none, false⟩]))
/-- patchbay/patchbayref13.check -/
def ac85 : AC :=
  .seq (.region false [⟨(some 5), .box false 122 (.tmp 2), none, false⟩,
        ⟨(some 6), .move (.const (.int .i64 0)), none, false⟩,
        ⟨(some 7), .move (.const (.int .i64 0)), none, false⟩,
        ⟨(some 8), .move (.const (.int .i64 0)), none, false⟩])
    (.seq (.seq (.region false [⟨(some 20), .move (.tmp 1), none, false⟩,
            ⟨(some 21), .move (.tmp 0), none, false⟩,
            ⟨(some 22), .bi .len [38].toArray 3 [(.tmp 21)], none, false⟩,
            ⟨(some 23), .bin .geq 3 (.tmp 20) (.tmp 22), none, false⟩])
        (.cond (.tmp 23)
          (.seq (.region false [⟨(some 24), .move (.tmp 1), none, false⟩,
                ⟨(some 6), .move (.const (.int .i64 0)), none, false⟩,
                ⟨(some 7), .move (.tmp 24), none, false⟩,
                ⟨(some 8), .move (.const (.int .i64 3)), none, false⟩])
            (.ret))
          (.skip)))
      (.seq (.region false [⟨(some 25), .move (.tmp 0), none, false⟩,
            ⟨(some 26), .move (.tmp 1), none, false⟩,
            ⟨(some 27), .iaddr 3 (.tmp 25) (.tmp 26), none, false⟩,
            ⟨(some 28), .faddr 0 1 false (.tmp 27), none, false⟩,
            ⟨(some 29), .load 1 false (.tmp 28), none, false⟩,
            ⟨(some 30), .call (.func 89) [(.tmp 29)], none, false⟩,
            ⟨(some 9), .move (.tmp 30), none, false⟩])
        (.seq (.seq (.region false [⟨(some 31), .move (.tmp 9), none, false⟩,
                ⟨(some 32), .bin .lss 3 (.tmp 31) (.const (.int .i64 0)), none, false⟩])
            (.cond (.tmp 32)
              (.seq (.region false [⟨(some 33), .move (.tmp 1), none, false⟩,
                    ⟨(some 6), .move (.const (.int .i64 0)), none, false⟩,
                    ⟨(some 7), .move (.tmp 33), none, false⟩,
                    ⟨(some 8), .move (.const (.int .i64 11)), none, false⟩])
                (.ret))
              (.skip)))
          (.seq (.seq (.region false [⟨(some 34), .move (.tmp 9), none, false⟩,
                  ⟨(some 35), .bin .eql 3 (.tmp 34) (.const (.int .i64 0)), none, false⟩])
              (.cond (.tmp 35)
                (.seq (.region true [⟨(some 37), .move (.tmp 0), none, false⟩,
                      ⟨(some 38), .move (.tmp 1), none, false⟩,
                      ⟨(some 39), .iaddr 3 (.tmp 37) (.tmp 38), none, false⟩,
                      ⟨(some 40), .load 3 true (.tmp 39), none, false⟩,
                      ⟨(some 41), .load 10 true (.tmp 5), none, false⟩,
                      ⟨(some 42), .call (.func 90) [(.tmp 40), (.tmp 41)], none, false⟩,
                      ⟨(some 36), .move (.tmp 42), none, false⟩,
                      ⟨(some 43), .extract (.tmp 36) 0, none, false⟩,
                      ⟨(some 44), .extract (.tmp 36) 1, none, false⟩,
                      ⟨(some 10), .move (.tmp 43), none, false⟩,
                      ⟨(some 11), .move (.tmp 44), none, false⟩])
                  (.seq (.region false [⟨(some 45), .move (.tmp 10), none, false⟩,
                        ⟨(some 46), .move (.tmp 1), none, false⟩,
                        ⟨(some 47), .bin .add 3 (.tmp 46) (.const (.int .i64 1)), none, false⟩,
                        ⟨(some 48), .move (.tmp 11), none, false⟩,
                        ⟨(some 6), .move (.tmp 45), none, false⟩,
                        ⟨(some 7), .move (.tmp 47), none, false⟩,
                        ⟨(some 8), .move (.tmp 48), none, false⟩])
                    (.ret)))
                (.skip)))
            (.seq (.region false [⟨(some 12), .move (.const (.slice none 0 0)), none, false⟩])
              (.seq (.region false [⟨(some 49), .move (.tmp 1), none, false⟩,
                    ⟨(some 50), .bin .add 3 (.tmp 49) (.const (.int .i64 1)), none, false⟩,
                    ⟨(some 13), .move (.tmp 50), none, false⟩])
                (.seq (.seq (.region false [⟨(some 14), .move (.const (.int .i64 0)), none, false⟩])
                    (.block 0 (.loop ac85_L1)))
                  (.seq (.region false [⟨(some 74), .move (.tmp 0), none, false⟩,
                        ⟨(some 75), .move (.tmp 1), none, false⟩,
                        ⟨(some 76), .iaddr 3 (.tmp 74) (.tmp 75), none, false⟩,
                        ⟨(some 77), .load 3 true (.tmp 76), none, false⟩,
                        ⟨(some 78), .move (.tmp 12), none, false⟩,
                        ⟨(some 79), .call (.func 91) [(.tmp 77), (.tmp 78)], none, false⟩,
                        ⟨(some 73), .move (.tmp 79), none, false⟩,
                        ⟨(some 80), .extract (.tmp 73) 0, none, false⟩,
                        ⟨(some 81), .extract (.tmp 73) 1, none, false⟩,
                        ⟨(some 18), .move (.tmp 80), none, false⟩,
                        ⟨(some 19), .move (.tmp 81), none, false⟩])
                    (.seq (.region false [⟨(some 82), .move (.tmp 18), none, false⟩,
                          ⟨(some 83), .move (.tmp 13), none, false⟩,
                          ⟨(some 84), .move (.tmp 19), none, false⟩,
                          ⟨(some 6), .move (.tmp 82), none, false⟩,
                          ⟨(some 7), .move (.tmp 83), none, false⟩,
                          ⟨(some 8), .move (.tmp 84), none, false⟩])
                      (.ret))))))))))
theorem text85 : FnText Try.prog 85 [] 85 3 ac85 [(6, none), (7, none), (8, none)] :=
  ⟨Try.call85, follows, Try.f85, _, Try.func85, rfl, rfl, by decide, by kernel_rfl, by kernel_rfl⟩


/-- patchbay/patchbayref13.Check -/
def ac76 : AC :=
  .seq (.region false [⟨(some 3), .box false 122 (.tmp 1), none, false⟩,
        ⟨(some 4), .move (.const (.int .i64 0)), none, false⟩,
        ⟨(some 5), .move (.const (.int .i64 0)), none, false⟩])
    (.seq (.seq (.region false [⟨(some 9), .move (.tmp 0), none, false⟩,
            ⟨(some 10), .bi .len [38].toArray 3 [(.tmp 9)], none, false⟩,
            ⟨(some 11), .bin .gtr 3 (.tmp 10) (.const (.int .i64 24)), none, false⟩])
        (.cond (.tmp 11)
          (.seq (.region false [⟨(some 4), .move (.const (.int .i64 0)), none, false⟩,
                ⟨(some 5), .move (.const (.int .i64 12)), none, false⟩])
            (.ret))
          (.skip)))
      (.seq (.region false [⟨(some 13), .move (.tmp 0), none, false⟩,
            ⟨(some 14), .load 10 true (.tmp 3), none, false⟩,
            ⟨(some 15), .call (.func 85) [(.tmp 13), (.const (.int .i64 0)), (.tmp 14)], none, false⟩,
            ⟨(some 12), .move (.tmp 15), none, false⟩,
            ⟨(some 16), .extract (.tmp 12) 0, none, false⟩,
            ⟨(some 17), .extract (.tmp 12) 1, none, false⟩,
            ⟨(some 18), .extract (.tmp 12) 2, none, false⟩,
            ⟨(some 6), .move (.tmp 16), none, false⟩,
            ⟨(some 7), .move (.tmp 17), none, false⟩,
            ⟨(some 8), .move (.tmp 18), none, false⟩])
        (.seq (.block 0 (.seq (.region false [⟨(some 20), .move (.tmp 8), none, false⟩,
                  ⟨(some 21), .bin .neq 35 (.tmp 20) (.const (.int .i64 0)), none, false⟩,
                  ⟨(some 19), .move (.tmp 21), none, false⟩])
              (.cond (.tmp 19)
                (.seq (.region false [⟨(some 22), .move (.tmp 8), none, false⟩,
                      ⟨(some 4), .move (.const (.int .i64 0)), none, false⟩,
                      ⟨(some 5), .move (.tmp 22), none, false⟩])
                  (.ret))
                (.seq (.region false [⟨(some 24), .move (.tmp 7), none, false⟩,
                      ⟨(some 25), .move (.tmp 0), none, false⟩,
                      ⟨(some 26), .bi .len [38].toArray 3 [(.tmp 25)], none, false⟩,
                      ⟨(some 27), .bin .lss 3 (.tmp 24) (.tmp 26), none, false⟩,
                      ⟨(some 23), .move (.tmp 27), none, false⟩])
                  (.cond (.tmp 23)
                    (.seq (.region false [⟨(some 4), .move (.const (.int .i64 0)), none, false⟩,
                          ⟨(some 5), .move (.const (.int .i64 4)), none, false⟩])
                      (.ret))
                    (.skip))))))
          (.seq (.region false [⟨(some 28), .move (.tmp 6), none, false⟩,
                ⟨(some 4), .move (.tmp 28), none, false⟩,
                ⟨(some 5), .move (.const (.int .i64 0)), none, false⟩])
            (.ret)))))
theorem text76 : FnText Try.prog 76 [] 29 2 ac76 [(4, none), (5, none)] :=
  ⟨Try.call76, follows, Try.f76, _, Try.func76, rfl, rfl, by decide, by kernel_rfl, by kernel_rfl⟩

def ac58_G1 : List AOper :=
  [⟨(some 7), .faddr 0 1 false (.tmp 1), (some (6, false)), false⟩,
    ⟨(some 8), .load 1 false (.tmp 7), (some (6, false)), false⟩,
    ⟨(some 9), .bin .eql 3 (.tmp 8) (.const (.int .i64 3)), (some (6, false)), false⟩,
    ⟨(some 10), .pick (.tmp 6) (.const (.bool true)) (.tmp 9), none, false⟩]
/-- patchbay/patchbayref20.applies -/
def ac58 : AC :=
  .seq (.region false [⟨(some 1), .box false 40 (.tmp 0), none, false⟩,
        ⟨(some 2), .move (.const (.bool false)), none, false⟩])
    (.seq (.region false (⟨(some 3), .faddr 0 1 false (.tmp 1), none, false⟩ :: ⟨(some 4), .load 1 false (.tmp 3), none, false⟩ :: ⟨(some 5), .bin .eql 3 (.tmp 4) (.const (.int .i64 1)), none, false⟩ :: ⟨(some 6), .move (.tmp 5), none, false⟩ :: (ac58_G1 ++ [⟨(some 2), .move (.tmp 10), none, false⟩])))
      (.ret))
theorem text58 : FnText Try.prog 58 [] 11 1 ac58 [(2, none)] :=
  ⟨Try.call58, follows, Try.f58, _, Try.func58, rfl, rfl, by decide, by kernel_rfl, by kernel_rfl⟩

def ac77_G1 : List AOper :=
  [⟨(some 17), .move (.tmp 0), (some (16, true)), false⟩,
    ⟨(some 18), .move (.tmp 5), (some (16, true)), false⟩,
    ⟨(some 19), .iaddr 5 (.tmp 17) (.tmp 18), (some (16, true)), false⟩,
    ⟨(some 20), .faddr 1 1 false (.tmp 19), (some (16, true)), false⟩,
    ⟨(some 21), .load 1 false (.tmp 20), (some (16, true)), false⟩,
    ⟨(some 22), .move (.tmp 0), (some (16, true)), false⟩,
    ⟨(some 23), .move (.tmp 1), (some (16, true)), false⟩,
    ⟨(some 24), .iaddr 5 (.tmp 22) (.tmp 23), (some (16, true)), false⟩,
    ⟨(some 25), .faddr 1 1 false (.tmp 24), (some (16, true)), false⟩,
    ⟨(some 26), .load 1 false (.tmp 25), (some (16, true)), false⟩,
    ⟨(some 27), .bin .eql 3 (.tmp 21) (.tmp 26), (some (16, true)), false⟩,
    ⟨(some 28), .pick (.tmp 16) (.tmp 27) (.const (.bool false)), none, false⟩]
def ac77_L1 : AC :=
  .seq (.seq (.region false [⟨(some 6), .move (.tmp 5), none, false⟩,
          ⟨(some 7), .move (.tmp 1), none, false⟩,
          ⟨(some 8), .bin .lss 3 (.tmp 6) (.tmp 7), none, false⟩])
      (.cond (.tmp 8)
        (.skip)
        (.exit 0)))
    (.seq (.block 1 (.seq (.region true (⟨(some 11), .move (.tmp 0), none, false⟩ :: ⟨(some 12), .move (.tmp 5), none, false⟩ :: ⟨(some 13), .iaddr 5 (.tmp 11) (.tmp 12), none, false⟩ :: ⟨(some 14), .load 5 true (.tmp 13), none, false⟩ :: ⟨(some 15), .call (.func 58) [(.tmp 14)], none, false⟩ :: ⟨(some 16), .move (.tmp 15), none, false⟩ :: (ac77_G1 ++ [])))
          (.cond (.tmp 28)
            (.seq (.region false [⟨(some 4), .move (.const (.bool true)), none, false⟩])
              (.ret))
            (.skip))))
      (.region false [⟨(some 9), .move (.tmp 5), none, false⟩,
          ⟨(some 10), .bin .add 3 (.tmp 9) (.const (.int .i64 1)), none, false⟩,
          ⟨(some 5), .move (.tmp 10), none, false⟩]))
/-- patchbay/patchbayref20.appliedBefore -/
def ac77 : AC :=
  .seq (.region false [⟨(some 4), .move (.const (.bool false)), none, false⟩])
    (.seq (.seq (.region false [⟨(some 5), .move (.const (.int .i64 0)), none, false⟩])
        (.block 0 (.loop ac77_L1)))
      (.seq (.region false [⟨(some 4), .move (.const (.bool false)), none, false⟩])
        (.ret)))
theorem text77 : FnText Try.prog 77 [] 29 2 ac77 [(4, none)] :=
  ⟨Try.call77, follows, Try.f77, _, Try.func77, rfl, rfl, by decide, by kernel_rfl, by kernel_rfl⟩

def ac53_G1 : List AOper :=
  [⟨(some 19), .faddr 0 1 false (.tmp 7), (some (18, false)), false⟩,
    ⟨(some 20), .load 1 false (.tmp 19), (some (18, false)), false⟩,
    ⟨(some 21), .bin .gtr 3 (.tmp 20) (.const (.int .i64 3)), (some (18, false)), false⟩,
    ⟨(some 22), .pick (.tmp 18) (.const (.bool true)) (.tmp 21), none, false⟩]
def ac53_G2 : List AOper :=
  [⟨(some 38), .move (.tmp 8), (some (37, true)), false⟩,
    ⟨(some 39), .bin .neq 3 (.tmp 38) (.const (.int .i64 1)), (some (37, true)), false⟩,
    ⟨(some 40), .pick (.tmp 37) (.tmp 39) (.const (.bool false)), none, false⟩]
def ac53_G3 : List AOper :=
  [⟨(some 47), .faddr 1 1 false (.tmp 7), (some (46, false)), false⟩,
    ⟨(some 48), .load 1 false (.tmp 47), (some (46, false)), false⟩,
    ⟨(some 49), .faddr 5 1 false (.tmp 3), (some (46, false)), false⟩,
    ⟨(some 50), .load 1 false (.tmp 49), (some (46, false)), false⟩,
    ⟨(some 51), .bi .len [26].toArray 3 [(.tmp 50)], (some (46, false)), false⟩,
    ⟨(some 52), .bin .geq 3 (.tmp 48) (.tmp 51), (some (46, false)), false⟩,
    ⟨(some 53), .pick (.tmp 46) (.const (.bool true)) (.tmp 52), none, false⟩]
def ac53_G4 : List AOper :=
  [⟨(some 63), .faddr 3 1 false (.tmp 7), (some (62, true)), false⟩,
    ⟨(some 64), .load 1 false (.tmp 63), (some (62, true)), false⟩,
    ⟨(some 65), .bi .len [28].toArray 3 [(.tmp 64)], (some (62, true)), false⟩,
    ⟨(some 66), .faddr 4 1 false (.tmp 7), (some (62, true)), false⟩,
    ⟨(some 67), .load 1 false (.tmp 66), (some (62, true)), false⟩,
    ⟨(some 68), .bi .len [28].toArray 3 [(.tmp 67)], (some (62, true)), false⟩,
    ⟨(some 69), .bin .add 3 (.tmp 65) (.tmp 68), (some (62, true)), false⟩,
    ⟨(some 70), .bin .gtr 3 (.tmp 69) (.const (.int .i64 0)), (some (62, true)), false⟩,
    ⟨(some 71), .pick (.tmp 62) (.tmp 70) (.const (.bool false)), none, false⟩]
/-- patchbay/patchbayref20.checkNode -/
def ac53 : AC :=
  .seq (.region false [⟨(some 3), .box false 31 (.tmp 0), none, false⟩,
        ⟨(some 6), .move (.const (.int .i64 0)), none, false⟩])
    (.seq (.region false [⟨(some 10), .move (.tmp 1), none, false⟩,
          ⟨(some 11), .move (.tmp 2), none, false⟩,
          ⟨(some 12), .iaddr 5 (.tmp 10) (.tmp 11), none, false⟩,
          ⟨(some 13), .load 5 true (.tmp 12), none, false⟩,
          ⟨(some 7), .alloc true 40 (.agg [(.int .i64 0), (.int .i64 0), (.slice none 0 0), (.slice none 0 0), (.slice none 0 0)].toArray), none, false⟩,
          ⟨none, .store 5 (.tmp 7) (.tmp 13), none, false⟩])
      (.seq (.block 0 (.seq (.region false (⟨(some 15), .faddr 0 1 false (.tmp 7), none, false⟩ :: ⟨(some 16), .load 1 false (.tmp 15), none, false⟩ :: ⟨(some 17), .bin .lss 3 (.tmp 16) (.const (.int .i64 1)), none, false⟩ :: ⟨(some 18), .move (.tmp 17), none, false⟩ :: (ac53_G1 ++ [⟨(some 14), .move (.tmp 22), none, false⟩])))
            (.cond (.tmp 14)
              (.seq (.region false [⟨(some 6), .move (.const (.int .i64 11)), none, false⟩])
                (.ret))
              (.seq (.region false [⟨(some 24), .faddr 0 1 false (.tmp 7), none, false⟩,
                    ⟨(some 25), .load 1 false (.tmp 24), none, false⟩,
                    ⟨(some 26), .bin .eql 3 (.tmp 25) (.const (.int .i64 2)), none, false⟩,
                    ⟨(some 23), .move (.tmp 26), none, false⟩])
                (.cond (.tmp 23)
                  (.seq (.region false [⟨(some 28), .faddr 2 1 false (.tmp 7), none, false⟩,
                        ⟨(some 29), .load 1 false (.tmp 28), none, false⟩,
                        ⟨(some 30), .load 9 true (.tmp 3), none, false⟩,
                        ⟨(some 31), .build [(.string ⟨[].toArray⟩), (.slice none 0 0), (.slice none 0 0), (.slice none 0 0), (.slice none 0 0), (.slice none 0 0), (.slice none 0 0), (.slice none 0 0), (.slice none 0 0), (.slice none 0 0)] [(0, 9, (.tmp 30))], none, false⟩,
                        ⟨(some 32), .call (.func 76) [(.tmp 29), (.tmp 31)], none, false⟩,
                        ⟨(some 27), .move (.tmp 32), none, false⟩,
                        ⟨(some 33), .extract (.tmp 27) 0, none, false⟩,
                        ⟨(some 34), .extract (.tmp 27) 1, none, false⟩,
                        ⟨(some 8), .move (.tmp 33), none, false⟩,
                        ⟨(some 9), .move (.tmp 34), none, false⟩])
                    (.seq (.seq (.region false (⟨(some 35), .move (.tmp 9), none, false⟩ :: ⟨(some 36), .bin .eql 35 (.tmp 35) (.const (.int .i64 0)), none, false⟩ :: ⟨(some 37), .move (.tmp 36), none, false⟩ :: (ac53_G2 ++ [])))
                        (.cond (.tmp 40)
                          (.region false [⟨(some 9), .move (.const (.int .i64 10)), none, false⟩])
                          (.skip)))
                      (.seq (.region false [⟨(some 41), .move (.tmp 9), none, false⟩,
                            ⟨(some 6), .move (.tmp 41), none, false⟩])
                        (.ret))))
                  (.seq (.region false (⟨(some 43), .faddr 1 1 false (.tmp 7), none, false⟩ :: ⟨(some 44), .load 1 false (.tmp 43), none, false⟩ :: ⟨(some 45), .bin .lss 3 (.tmp 44) (.const (.int .i64 0)), none, false⟩ :: ⟨(some 46), .move (.tmp 45), none, false⟩ :: (ac53_G3 ++ [⟨(some 42), .move (.tmp 53), none, false⟩])))
                    (.cond (.tmp 42)
                      (.seq (.region false [⟨(some 6), .move (.const (.int .i64 8)), none, false⟩])
                        (.ret))
                      (.seq (.region false [⟨(some 55), .move (.tmp 1), none, false⟩,
                            ⟨(some 56), .move (.tmp 2), none, false⟩,
                            ⟨(some 57), .call (.func 77) [(.tmp 55), (.tmp 56)], none, false⟩,
                            ⟨(some 54), .move (.tmp 57), none, false⟩])
                        (.cond (.tmp 54)
                          (.seq (.region false [⟨(some 6), .move (.const (.int .i64 7)), none, false⟩])
                            (.ret))
                          (.seq (.region false (⟨(some 59), .faddr 0 1 false (.tmp 7), none, false⟩ :: ⟨(some 60), .load 1 false (.tmp 59), none, false⟩ :: ⟨(some 61), .bin .eql 3 (.tmp 60) (.const (.int .i64 1)), none, false⟩ :: ⟨(some 62), .move (.tmp 61), none, false⟩ :: (ac53_G4 ++ [⟨(some 58), .move (.tmp 71), none, false⟩])))
                            (.cond (.tmp 58)
                              (.seq (.region false [⟨(some 6), .move (.const (.int .i64 5)), none, false⟩])
                                (.ret))
                              (.skip))))))))))))
        (.seq (.region false [⟨(some 6), .move (.const (.int .i64 0)), none, false⟩])
          (.ret))))
theorem text53 : FnText Try.prog 53 [7] 72 3 ac53 [(6, none)] :=
  ⟨Try.call53, follows, Try.f53, _, Try.func53, rfl, rfl, by decide, by kernel_rfl, by kernel_rfl⟩

def ac17_L1 : AC :=
  .seq (.seq (.region false [⟨(some 20), .move (.tmp 5), none, false⟩,
          ⟨(some 21), .move (.tmp 4), none, false⟩,
          ⟨(some 22), .bi .len [28].toArray 3 [(.tmp 21)], none, false⟩,
          ⟨(some 23), .bin .lss 3 (.tmp 20) (.tmp 22), none, false⟩])
      (.cond (.tmp 23)
        (.skip)
        (.exit 1)))
    (.seq (.block 2 (.seq (.region false [⟨(some 26), .load 9 true (.tmp 1), none, false⟩,
              ⟨(some 27), .move (.tmp 4), none, false⟩,
              ⟨(some 28), .move (.tmp 5), none, false⟩,
              ⟨(some 29), .call (.func 53) [(.tmp 26), (.tmp 27), (.tmp 28)], none, false⟩,
              ⟨(some 6), .move (.tmp 29), none, false⟩])
          (.seq (.region false [⟨(some 30), .move (.tmp 6), none, false⟩,
                ⟨(some 31), .bin .neq 35 (.tmp 30) (.const (.int .i64 0)), none, false⟩])
            (.cond (.tmp 31)
              (.seq (.region false [⟨(some 32), .move (.tmp 5), none, false⟩,
                    ⟨(some 33), .move (.tmp 6), none, false⟩,
                    ⟨(some 2), .move (.tmp 32), none, false⟩,
                    ⟨(some 3), .move (.tmp 33), none, false⟩])
                (.ret))
              (.skip)))))
      (.region false [⟨(some 24), .move (.tmp 5), none, false⟩,
          ⟨(some 25), .bin .add 3 (.tmp 24) (.const (.int .i64 1)), none, false⟩,
          ⟨(some 5), .move (.tmp 25), none, false⟩]))
/-- patchbay/patchbayref20.Check -/
def ac17 : AC :=
  .seq (.region false [⟨(some 1), .box false 31 (.tmp 0), none, false⟩,
        ⟨(some 2), .move (.const (.int .i64 0)), none, false⟩,
        ⟨(some 3), .move (.const (.int .i64 0)), none, false⟩])
    (.seq (.block 0 (.seq (.region false [⟨(some 8), .faddr 7 1 false (.tmp 1), none, false⟩,
              ⟨(some 9), .load 1 false (.tmp 8), none, false⟩,
              ⟨(some 10), .call (.func 21) [(.tmp 9)], none, false⟩,
              ⟨(some 11), .bin .gtr 3 (.tmp 10) (.const (.int .i64 24)), none, false⟩,
              ⟨(some 7), .move (.tmp 11), none, false⟩])
          (.cond (.tmp 7)
            (.seq (.region false [⟨(some 2), .move (.const (.int .i64 (-1))), none, false⟩,
                  ⟨(some 3), .move (.const (.int .i64 12)), none, false⟩])
              (.ret))
            (.seq (.region false [⟨(some 13), .faddr 7 1 false (.tmp 1), none, false⟩,
                  ⟨(some 14), .load 1 false (.tmp 13), none, false⟩,
                  ⟨(some 15), .call (.func 23) [(.tmp 14)], none, false⟩,
                  ⟨(some 16), .bin .gtr 3 (.tmp 15) (.const (.int .i64 6)), none, false⟩,
                  ⟨(some 12), .move (.tmp 16), none, false⟩])
              (.cond (.tmp 12)
                (.seq (.region false [⟨(some 2), .move (.const (.int .i64 (-1))), none, false⟩,
                      ⟨(some 3), .move (.const (.int .i64 14)), none, false⟩])
                  (.ret))
                (.skip))))))
      (.seq (.region false [⟨(some 17), .faddr 7 1 false (.tmp 1), none, false⟩,
            ⟨(some 18), .load 1 false (.tmp 17), none, false⟩,
            ⟨(some 19), .call (.func 52) [(.tmp 18)], none, false⟩,
            ⟨(some 4), .move (.tmp 19), none, false⟩])
        (.seq (.seq (.region false [⟨(some 5), .move (.const (.int .i64 0)), none, false⟩])
            (.block 1 (.loop ac17_L1)))
          (.seq (.region false [⟨(some 2), .move (.const (.int .i64 0)), none, false⟩,
                ⟨(some 3), .move (.const (.int .i64 0)), none, false⟩])
            (.ret)))))
theorem text17 : FnText Try.prog 17 [] 34 1 ac17 [(2, none), (3, none)] :=
  ⟨Try.call17, follows, Try.f17, _, Try.func17, rfl, rfl, by decide, by kernel_rfl, by kernel_rfl⟩

def ac3_G1 : List AOper :=
  [⟨(some 11), .faddr 7 1 false (.tmp 1), (some (10, false)), false⟩,
    ⟨(some 12), .load 1 false (.tmp 11), (some (10, false)), false⟩,
    ⟨(some 13), .call (.func 14) [(.tmp 12), (.const (.int .i64 40))], (some (10, false)), false⟩,
    ⟨(some 14), .un .not (.tmp 13), (some (10, false)), false⟩,
    ⟨(some 15), .pick (.tmp 10) (.const (.bool true)) (.tmp 14), none, false⟩]
def ac3_G2 : List AOper :=
  [⟨(some 31), .move (.tmp 4), (some (30, true)), false⟩,
    ⟨(some 32), .move (.tmp 6), (some (30, true)), false⟩,
    ⟨(some 33), .bin .eql 35 (.tmp 31) (.tmp 32), (some (30, true)), false⟩,
    ⟨(some 34), .pick (.tmp 30) (.tmp 33) (.const (.bool false)), none, false⟩]
def ac3_G3 : List AOper :=
  [⟨(some 36), .call (.func 15) [], (some (35, true)), false⟩,
    ⟨(some 37), .pick (.tmp 35) (.tmp 36) (.const (.bool false)), none, false⟩]
/-- patchbay/patchbaylaw20.ControlChecks -/
def ac3 : AC :=
  .seq (.region false [⟨(some 1), .box false 31 (.tmp 0), none, false⟩,
        ⟨(some 2), .move (.const (.bool false)), none, false⟩])
    (.seq (.seq (.region false (⟨(some 7), .load 9 true (.tmp 1), none, false⟩ :: ⟨(some 8), .call (.func 13) [(.tmp 7)], none, false⟩ :: ⟨(some 9), .un .not (.tmp 8), none, false⟩ :: ⟨(some 10), .move (.tmp 9), none, false⟩ :: (ac3_G1 ++ [])))
        (.cond (.tmp 15)
          (.seq (.region false [⟨(some 16), .call (.func 15) [], none, false⟩,
                ⟨(some 2), .move (.tmp 16), none, false⟩])
            (.ret))
          (.skip)))
      (.seq (.region false [⟨(some 18), .load 9 true (.tmp 1), none, false⟩,
            ⟨(some 19), .call (.func 16) [(.tmp 18)], none, false⟩,
            ⟨(some 17), .move (.tmp 19), none, false⟩,
            ⟨(some 20), .extract (.tmp 17) 0, none, false⟩,
            ⟨(some 21), .extract (.tmp 17) 1, none, false⟩,
            ⟨(some 3), .move (.tmp 20), none, false⟩,
            ⟨(some 4), .move (.tmp 21), none, false⟩])
        (.seq (.region false [⟨(some 23), .load 9 true (.tmp 1), none, false⟩,
              ⟨(some 24), .call (.func 17) [(.tmp 23)], none, false⟩,
              ⟨(some 22), .move (.tmp 24), none, false⟩,
              ⟨(some 25), .extract (.tmp 22) 0, none, false⟩,
              ⟨(some 26), .extract (.tmp 22) 1, none, false⟩,
              ⟨(some 5), .move (.tmp 25), none, false⟩,
              ⟨(some 6), .move (.tmp 26), none, false⟩])
          (.seq (.region false (⟨(some 27), .move (.tmp 3), none, false⟩ :: ⟨(some 28), .move (.tmp 5), none, false⟩ :: ⟨(some 29), .bin .eql 3 (.tmp 27) (.tmp 28), none, false⟩ :: ⟨(some 30), .move (.tmp 29), none, false⟩ :: (ac3_G2 ++ (⟨(some 35), .move (.tmp 34), none, false⟩ :: (ac3_G3 ++ [⟨(some 2), .move (.tmp 37), none, false⟩])))))
            (.ret)))))
theorem text3 : FnText Try.prog 3 [] 38 1 ac3 [(2, none)] :=
  ⟨Try.call3, follows, Try.f3, _, Try.func3, rfl, rfl, by decide, by kernel_rfl, by kernel_rfl⟩


/-- patchbay/control.Node -/
def ac18 : AC :=
  .seq (.region false [⟨(some 3), .box false 3 (.tmp 1), none, false⟩,
        ⟨(some 4), .alloc true 40 (.agg [(.int .i64 0), (.int .i64 0), (.slice none 0 0), (.slice none 0 0), (.slice none 0 0)].toArray), none, false⟩,
        ⟨(some 5), .move (.const (.bool false)), none, false⟩])
    (.seq (.region false [⟨(some 6), .alloc true 40 (.agg [(.int .i64 0), (.int .i64 0), (.slice none 0 0), (.slice none 0 0), (.slice none 0 0)].toArray), none, false⟩])
      (.seq (.region false [⟨(some 7), .alloc true 3 (.int .i64 0), none, false⟩,
            ⟨none, .store 1 (.tmp 7) (.const (.int .i64 0)), none, false⟩])
        (.seq (.region false [⟨(some 9), .move (.tmp 0), none, false⟩,
              ⟨(some 10), .mkFunc (.func 54) [] [(.tmp 7), (.tmp 3), (.tmp 6)], none, false⟩,
              ⟨(some 11), .call (.func 48) [(.tmp 9), (.tmp 10)], none, false⟩,
              ⟨(some 8), .move (.tmp 11), none, false⟩])
          (.seq (.region false [⟨(some 12), .load 5 true (.tmp 6), none, false⟩,
                ⟨(some 13), .move (.tmp 8), none, false⟩,
                ⟨(some 14), .un .not (.tmp 13), none, false⟩,
                ⟨none, .store 5 (.tmp 4) (.tmp 12), none, false⟩,
                ⟨(some 5), .move (.tmp 14), none, false⟩])
            (.ret)))))
theorem text18 : FnText Try.prog 18 [4, 6, 7] 15 2 ac18 [(4, some (5, true)), (5, none)] :=
  ⟨Try.call18, follows, Try.f18, _, Try.func18, rfl, rfl, by decide, by kernel_rfl, by kernel_rfl⟩


/-- patchbay/control.Node$1 -/
def ac54 : AC :=
  .seq (.region false [⟨(some 4), .box false 40 (.tmp 0), none, false⟩,
        ⟨(some 5), .move (.const (.bool false)), none, false⟩])
    (.seq (.seq (.region false [⟨(some 6), .load 1 false (.tmp 1), none, false⟩,
            ⟨(some 7), .load 1 false (.tmp 2), none, false⟩,
            ⟨(some 8), .bin .eql 3 (.tmp 6) (.tmp 7), none, false⟩])
        (.cond (.tmp 8)
          (.seq (.region false [⟨(some 9), .load 5 true (.tmp 4), none, false⟩,
                ⟨(some 10), .call (.func 55) [(.tmp 9)], none, false⟩,
                ⟨none, .store 5 (.tmp 3) (.tmp 10), none, false⟩])
            (.seq (.region false [⟨(some 5), .move (.const (.bool false)), none, false⟩])
              (.ret)))
          (.skip)))
      (.seq (.region false [⟨(some 11), .load 1 false (.tmp 1), none, false⟩,
            ⟨(some 12), .bin .add 3 (.tmp 11) (.const (.int .i64 1)), none, false⟩,
            ⟨none, .store 1 (.tmp 1) (.tmp 12), none, false⟩])
        (.seq (.region false [⟨(some 5), .move (.const (.bool true)), none, false⟩])
          (.ret))))
theorem text54 : FnText Try.prog 54 [] 13 4 ac54 [(5, none)] :=
  ⟨Try.call54, follows, Try.f54, _, Try.func54, rfl, rfl, by decide, by kernel_rfl, by kernel_rfl⟩


/-- patchbay/control.clone -/
def ac55 : AC :=
  .seq (.region false [⟨(some 1), .box true 40 (.tmp 0), none, false⟩,
        ⟨(some 2), .alloc true 40 (.agg [(.int .i64 0), (.int .i64 0), (.slice none 0 0), (.slice none 0 0), (.slice none 0 0)].toArray), none, false⟩])
    (.seq (.region false [⟨(some 3), .faddr 2 1 false (.tmp 1), none, false⟩,
          ⟨(some 4), .load 1 false (.tmp 3), none, false⟩,
          ⟨(some 5), .append 38 106 3 24 (.const (.slice none 0 0)) (.tmp 4), none, false⟩,
          ⟨(some 6), .faddr 2 1 false (.tmp 1), none, false⟩,
          ⟨none, .store 1 (.tmp 6) (.tmp 5), none, false⟩])
      (.seq (.region true [⟨(some 7), .faddr 3 1 false (.tmp 1), none, false⟩,
            ⟨(some 8), .load 1 false (.tmp 7), none, false⟩,
            ⟨(some 9), .call (.func 78) [(.tmp 8)], none, false⟩,
            ⟨(some 10), .faddr 4 1 false (.tmp 1), none, false⟩,
            ⟨(some 11), .load 1 false (.tmp 10), none, false⟩,
            ⟨(some 12), .call (.func 78) [(.tmp 11)], none, false⟩,
            ⟨(some 13), .faddr 3 1 false (.tmp 1), none, false⟩,
            ⟨none, .store 1 (.tmp 13) (.tmp 9), none, false⟩,
            ⟨(some 14), .faddr 4 1 false (.tmp 1), none, false⟩,
            ⟨none, .store 1 (.tmp 14) (.tmp 12), none, false⟩])
        (.seq (.region false [⟨(some 15), .load 5 true (.tmp 1), none, false⟩,
              ⟨none, .store 5 (.tmp 2) (.tmp 15), none, false⟩])
          (.ret))))
theorem text55 : FnText Try.prog 55 [1, 2] 16 1 ac55 [(2, some (5, true))] :=
  ⟨Try.call55, follows, Try.f55, _, Try.func55, rfl, rfl, by decide, by kernel_rfl, by kernel_rfl⟩

def ac78_L1 : AC :=
  .seq (.region false [⟨(some 9), .bin .lss 3 (.tmp 8) (.tmp 7), none, false⟩])
    (.seq (.cond (.tmp 9)
        (.skip)
        (.exit 0))
      (.seq (.block 1 (.seq (.region false [⟨(some 10), .iaddr 5 (.tmp 6) (.tmp 8), none, false⟩,
                ⟨(some 11), .load 5 true (.tmp 10), none, false⟩,
                ⟨(some 5), .alloc true 40 (.agg [(.int .i64 0), (.int .i64 0), (.slice none 0 0), (.slice none 0 0), (.slice none 0 0)].toArray), none, false⟩,
                ⟨none, .store 5 (.tmp 5) (.tmp 11), none, false⟩])
            (.region false [⟨(some 12), .move (.tmp 3), none, false⟩,
                ⟨(some 13), .load 5 true (.tmp 5), none, false⟩,
                ⟨(some 14), .call (.func 55) [(.tmp 13)], none, false⟩,
                ⟨(some 15), .bslice false 40 5 false [(.tmp 14)], none, false⟩,
                ⟨(some 16), .append 28 40 5 88 (.tmp 12) (.tmp 15), none, false⟩,
                ⟨(some 3), .move (.tmp 16), none, false⟩])))
        (.region false [⟨(some 17), .bin .add 3 (.tmp 8) (.const (.int .i64 1)), none, false⟩,
            ⟨(some 8), .move (.tmp 17), none, false⟩])))
/-- patchbay/control.cloneAll -/
def ac78 : AC :=
  .seq (.region false [⟨(some 2), .move (.const (.slice none 0 0)), none, false⟩])
    (.seq (.region false [⟨(some 3), .move (.const (.slice none 0 0)), none, false⟩])
      (.seq (.seq (.region false [⟨(some 6), .move (.tmp 0), none, false⟩,
              ⟨(some 7), .bi .len [28].toArray 3 [(.tmp 6)], none, false⟩,
              ⟨(some 8), .move (.const (.int .i64 0)), none, false⟩])
          (.block 0 (.loop ac78_L1)))
        (.seq (.region false [⟨(some 18), .move (.tmp 3), none, false⟩,
              ⟨(some 2), .move (.tmp 18), none, false⟩])
          (.ret))))
theorem text78 : FnText Try.prog 78 [5] 19 1 ac78 [(2, none)] :=
  ⟨Try.call78, follows, Try.f78, _, Try.func78, rfl, rfl, by decide, by kernel_rfl, by kernel_rfl⟩


/-- patchbay/control.Tables -/
def ac25 : AC :=
  .seq (.region false [⟨(some 2), .move (.const (.slice none 0 0)), none, false⟩])
    (.seq (.region false [⟨(some 3), .alloc true 29 (.slice none 0 0), none, false⟩])
      (.seq (.region false [⟨(some 4), .move (.tmp 0), none, false⟩,
            ⟨(some 5), .mkFunc (.func 57) [] [(.tmp 3)], none, false⟩,
            ⟨(some 6), .call (.func 48) [(.tmp 4), (.tmp 5)], none, false⟩])
        (.seq (.region false [⟨(some 7), .load 1 false (.tmp 3), none, false⟩,
              ⟨(some 2), .move (.tmp 7), none, false⟩])
          (.ret))))
theorem text25 : FnText Try.prog 25 [3] 8 1 ac25 [(2, none)] :=
  ⟨Try.call25, follows, Try.f25, _, Try.func25, rfl, rfl, by decide, by kernel_rfl, by kernel_rfl⟩


/-- patchbay/control.Tables$1 -/
def ac57 : AC :=
  .seq (.region false [⟨(some 2), .box false 40 (.tmp 0), none, false⟩,
        ⟨(some 3), .move (.const (.bool false)), none, false⟩])
    (.seq (.seq (.region false [⟨(some 4), .load 5 true (.tmp 2), none, false⟩,
            ⟨(some 5), .call (.func 51) [(.tmp 4)], none, false⟩])
        (.cond (.tmp 5)
          (.region false [⟨(some 6), .load 1 false (.tmp 1), none, false⟩,
              ⟨(some 7), .faddr 1 1 false (.tmp 2), none, false⟩,
              ⟨(some 8), .load 1 false (.tmp 7), none, false⟩,
              ⟨(some 9), .bslice false 3 1 false [(.tmp 8)], none, false⟩,
              ⟨(some 10), .append 29 3 1 8 (.tmp 6) (.tmp 9), none, false⟩,
              ⟨none, .store 1 (.tmp 1) (.tmp 10), none, false⟩])
          (.skip)))
      (.seq (.region false [⟨(some 3), .move (.const (.bool true)), none, false⟩])
        (.ret)))
theorem text57 : FnText Try.prog 57 [] 11 2 ac57 [(3, none)] :=
  ⟨Try.call57, follows, Try.f57, _, Try.func57, rfl, rfl, by decide, by kernel_rfl, by kernel_rfl⟩

def ac24_L1 : AC :=
  .seq (.seq (.region false [⟨(some 11), .move (.tmp 5), none, false⟩,
          ⟨(some 12), .move (.tmp 0), none, false⟩,
          ⟨(some 13), .bi .len [29].toArray 3 [(.tmp 12)], none, false⟩,
          ⟨(some 14), .bin .lss 3 (.tmp 11) (.tmp 13), none, false⟩])
      (.cond (.tmp 14)
        (.skip)
        (.exit 0)))
    (.seq (.block 1 (.seq (.region true [⟨(some 17), .move (.tmp 0), none, false⟩,
              ⟨(some 18), .move (.tmp 5), none, false⟩,
              ⟨(some 19), .iaddr 1 (.tmp 17) (.tmp 18), none, false⟩,
              ⟨(some 20), .load 1 false (.tmp 19), none, false⟩,
              ⟨(some 21), .move (.tmp 1), none, false⟩,
              ⟨(some 22), .move (.tmp 5), none, false⟩,
              ⟨(some 23), .iaddr 1 (.tmp 21) (.tmp 22), none, false⟩,
              ⟨(some 24), .load 1 false (.tmp 23), none, false⟩,
              ⟨(some 25), .bin .neq 3 (.tmp 20) (.tmp 24), none, false⟩])
          (.cond (.tmp 25)
            (.seq (.region false [⟨(some 4), .move (.const (.bool false)), none, false⟩])
              (.ret))
            (.skip))))
      (.region false [⟨(some 15), .move (.tmp 5), none, false⟩,
          ⟨(some 16), .bin .add 3 (.tmp 15) (.const (.int .i64 1)), none, false⟩,
          ⟨(some 5), .move (.tmp 16), none, false⟩]))
/-- patchbay/patchbayref02.EqualInts -/
def ac24 : AC :=
  .seq (.region false [⟨(some 4), .move (.const (.bool false)), none, false⟩])
    (.seq (.seq (.region false [⟨(some 6), .move (.tmp 0), none, false⟩,
            ⟨(some 7), .bi .len [29].toArray 3 [(.tmp 6)], none, false⟩,
            ⟨(some 8), .move (.tmp 1), none, false⟩,
            ⟨(some 9), .bi .len [29].toArray 3 [(.tmp 8)], none, false⟩,
            ⟨(some 10), .bin .neq 3 (.tmp 7) (.tmp 9), none, false⟩])
        (.cond (.tmp 10)
          (.seq (.region false [⟨(some 4), .move (.const (.bool false)), none, false⟩])
            (.ret))
          (.skip)))
      (.seq (.seq (.region false [⟨(some 5), .move (.const (.int .i64 0)), none, false⟩])
          (.block 0 (.loop ac24_L1)))
        (.seq (.region false [⟨(some 4), .move (.const (.bool true)), none, false⟩])
          (.ret))))
theorem text24 : FnText Try.prog 24 [] 26 2 ac24 [(4, none)] :=
  ⟨Try.call24, follows, Try.f24, _, Try.func24, rfl, rfl, by decide, by kernel_rfl, by kernel_rfl⟩

end Go.Proofs.Ytkgnjpoafilicaa
