/-
 The text of each function of this seat, as the plain library tells it; each by the kernel's own reckoning from the program.
-/
import Derived.Test.YtklfdkbemkommaaPbWp
import Derived.Test.YtklfdkbemkommaaRows
set_option linter.unusedVariables false
set_option maxRecDepth 100000
namespace Go.Proofs.Ytklfdkbemkommaa
open Go Go.Pb
theorem follows : Try.prog.follows .mixedOrders = true := by kernel_rfl
def ac44_L1 : AC :=
 .seq (.seq (.region false [⟨(some 7), .move (.tmp 3), none, false⟩,
 ⟨(some 8), .move (.tmp 0), none, false⟩,
 ⟨(some 9), .bi .len [23].toArray 3 [(.tmp 8)], none, false⟩,
 ⟨(some 10), .bin .lss 3 (.tmp 7) (.tmp 9), none, false⟩])
 (.cond (.tmp 10)
 (.skip)
 (.exit 0)))
 (.seq (.block 1 (.seq (.region false [⟨(some 13), .move (.tmp 0), none, false⟩,
 ⟨(some 14), .move (.tmp 3), none, false⟩,
 ⟨(some 15), .iaddr 2 (.tmp 13) (.tmp 14), none, false⟩,
 ⟨(some 16), .faddr 0 1 false (.tmp 15), none, false⟩,
 ⟨(some 17), .load 1 false (.tmp 16), none, false⟩,
 ⟨(some 18), .bi .len [9].toArray 3 [(.tmp 17)], none, false⟩,
 ⟨(some 19), .bin .gtr 3 (.tmp 18) (.const (.int .i64 40)), none, false⟩])
 (.cond (.tmp 19)
 (.seq (.region false [⟨(some 2), .move (.const (.bool false)), none, false⟩])
 (.ret))
 (.skip))))
 (.region false [⟨(some 11), .move (.tmp 3), none, false⟩,
 ⟨(some 12), .bin .add 3 (.tmp 11) (.const (.int .i64 1)), none, false⟩,
 ⟨(some 3), .move (.tmp 12), none, false⟩]))
/-- patchbay/patchbaylaw17.fields -/
def ac44 : AC :=
 .seq (.region false [⟨(some 2), .move (.const (.bool false)), none, false⟩])
 (.seq (.seq (.region false [⟨(some 4), .move (.tmp 0), none, false⟩,
 ⟨(some 5), .bi .len [23].toArray 3 [(.tmp 4)], none, false⟩,
 ⟨(some 6), .bin .gtr 3 (.tmp 5) (.const (.int .i64 16)), none, false⟩])
 (.cond (.tmp 6)
 (.seq (.region false [⟨(some 2), .move (.const (.bool false)), none, false⟩])
 (.ret))
 (.skip)))
 (.seq (.seq (.region false [⟨(some 3), .move (.const (.int .i64 0)), none, false⟩])
 (.block 0 (.loop ac44_L1)))
 (.seq (.region false [⟨(some 2), .move (.const (.bool true)), none, false⟩])
 (.ret))))
theorem text44 : FnText Try.prog 44 [] 20 1 ac44 [(2, none)] :=
 ⟨Try.call44, follows, Try.f44, _, Try.func44, rfl, rfl, by decide, by kernel_rfl, by kernel_rfl⟩

def ac45_G1 : List AOper :=
 [⟨(some 9), .faddr 1 1 false (.tmp 1), (some (8, false)), false⟩,
 ⟨(some 10), .load 1 false (.tmp 9), (some (8, false)), false⟩,
 ⟨(some 11), .call (.func 44) [(.tmp 10)], (some (8, false)), false⟩,
 ⟨(some 12), .un .not (.tmp 11), (some (8, false)), false⟩,
 ⟨(some 13), .pick (.tmp 8) (.const (.bool true)) (.tmp 12), none, false⟩]
def ac45_G2 : List AOper :=
 [⟨(some 15), .faddr 2 1 false (.tmp 1), (some (14, false)), false⟩,
 ⟨(some 16), .load 1 false (.tmp 15), (some (14, false)), false⟩,
 ⟨(some 17), .bi .len [93].toArray 3 [(.tmp 16)], (some (14, false)), false⟩,
 ⟨(some 18), .bin .gtr 3 (.tmp 17) (.const (.int .i64 16)), (some (14, false)), false⟩,
 ⟨(some 19), .pick (.tmp 14) (.const (.bool true)) (.tmp 18), none, false⟩]
def ac45_G3 : List AOper :=
 [⟨(some 36), .faddr 2 1 false (.tmp 1), (some (35, false)), false⟩,
 ⟨(some 37), .load 1 false (.tmp 36), (some (35, false)), false⟩,
 ⟨(some 38), .move (.tmp 3), (some (35, false)), false⟩,
 ⟨(some 39), .iaddr 7 (.tmp 37) (.tmp 38), (some (35, false)), false⟩,
 ⟨(some 40), .faddr 6 1 false (.tmp 39), (some (35, false)), false⟩,
 ⟨(some 41), .load 1 false (.tmp 40), (some (35, false)), false⟩,
 ⟨(some 42), .bi .len [113].toArray 3 [(.tmp 41)], (some (35, false)), false⟩,
 ⟨(some 43), .bin .gtr 3 (.tmp 42) (.const (.int .i64 40)), (some (35, false)), false⟩,
 ⟨(some 44), .pick (.tmp 35) (.const (.bool true)) (.tmp 43), none, false⟩]
def ac45_L1 : AC :=
 .seq (.seq (.region false [⟨(some 20), .move (.tmp 3), none, false⟩,
 ⟨(some 21), .faddr 2 1 false (.tmp 1), none, false⟩,
 ⟨(some 22), .load 1 false (.tmp 21), none, false⟩,
 ⟨(some 23), .bi .len [93].toArray 3 [(.tmp 22)], none, false⟩,
 ⟨(some 24), .bin .lss 3 (.tmp 20) (.tmp 23), none, false⟩])
 (.cond (.tmp 24)
 (.skip)
 (.exit 0)))
 (.seq (.block 1 (.seq (.region false (⟨(some 27), .faddr 2 1 false (.tmp 1), none, false⟩ :: ⟨(some 28), .load 1 false (.tmp 27), none, false⟩ :: ⟨(some 29), .move (.tmp 3), none, false⟩ :: ⟨(some 30), .iaddr 7 (.tmp 28) (.tmp 29), none, false⟩ :: ⟨(some 31), .faddr 5 1 false (.tmp 30), none, false⟩ :: ⟨(some 32), .load 1 false (.tmp 31), none, false⟩ :: ⟨(some 33), .bi .len [113].toArray 3 [(.tmp 32)], none, false⟩ :: ⟨(some 34), .bin .gtr 3 (.tmp 33) (.const (.int .i64 40)), none, false⟩ :: ⟨(some 35), .move (.tmp 34), none, false⟩ :: (ac45_G3 ++ [])))
 (.cond (.tmp 44)
 (.seq (.region false [⟨(some 2), .move (.const (.bool false)), none, false⟩])
 (.ret))
 (.skip))))
 (.region false [⟨(some 25), .move (.tmp 3), none, false⟩,
 ⟨(some 26), .bin .add 3 (.tmp 25) (.const (.int .i64 1)), none, false⟩,
 ⟨(some 3), .move (.tmp 26), none, false⟩]))
/-- patchbay/patchbaylaw17.body -/
def ac45 : AC :=
 .seq (.region false [⟨(some 1), .box false 95 (.tmp 0), none, false⟩,
 ⟨(some 2), .move (.const (.bool false)), none, false⟩])
 (.seq (.seq (.region false (⟨(some 4), .faddr 0 1 false (.tmp 1), none, false⟩ :: ⟨(some 5), .load 1 false (.tmp 4), none, false⟩ :: ⟨(some 6), .bi .len [9].toArray 3 [(.tmp 5)], none, false⟩ :: ⟨(some 7), .bin .gtr 3 (.tmp 6) (.const (.int .i64 40)), none, false⟩ :: ⟨(some 8), .move (.tmp 7), none, false⟩ :: (ac45_G1 ++ (⟨(some 14), .move (.tmp 13), none, false⟩ :: (ac45_G2 ++ [])))))
 (.cond (.tmp 19)
 (.seq (.region false [⟨(some 2), .move (.const (.bool false)), none, false⟩])
 (.ret))
 (.skip)))
 (.seq (.seq (.region false [⟨(some 3), .move (.const (.int .i64 0)), none, false⟩])
 (.block 0 (.loop ac45_L1)))
 (.seq (.region false [⟨(some 2), .move (.const (.bool true)), none, false⟩])
 (.ret))))
theorem text45 : FnText Try.prog 45 [] 45 1 ac45 [(2, none)] :=
 ⟨Try.call45, follows, Try.f45, _, Try.func45, rfl, rfl, by decide, by kernel_rfl, by kernel_rfl⟩

def ac14_G1 : List AOper :=
 [⟨(some 14), .faddr 1 1 false (.tmp 1), (some (13, false)), false⟩,
 ⟨(some 15), .load 1 false (.tmp 14), (some (13, false)), false⟩,
 ⟨(some 16), .bi .len [22].toArray 3 [(.tmp 15)], (some (13, false)), false⟩,
 ⟨(some 17), .bin .gtr 3 (.tmp 16) (.const (.int .i64 12)), (some (13, false)), false⟩,
 ⟨(some 18), .pick (.tmp 13) (.const (.bool true)) (.tmp 17), none, false⟩]
def ac14_G2 : List AOper :=
 [⟨(some 20), .faddr 2 1 false (.tmp 1), (some (19, false)), false⟩,
 ⟨(some 21), .load 1 false (.tmp 20), (some (19, false)), false⟩,
 ⟨(some 22), .call (.func 44) [(.tmp 21)], (some (19, false)), false⟩,
 ⟨(some 23), .un .not (.tmp 22), (some (19, false)), false⟩,
 ⟨(some 24), .pick (.tmp 19) (.const (.bool true)) (.tmp 23), none, false⟩]
def ac14_G3 : List AOper :=
 [⟨(some 26), .faddr 3 1 false (.tmp 1), (some (25, false)), false⟩,
 ⟨(some 27), .load 1 false (.tmp 26), (some (25, false)), false⟩,
 ⟨(some 28), .bi .len [24].toArray 3 [(.tmp 27)], (some (25, false)), false⟩,
 ⟨(some 29), .bin .gtr 3 (.tmp 28) (.const (.int .i64 8)), (some (25, false)), false⟩,
 ⟨(some 30), .pick (.tmp 25) (.const (.bool true)) (.tmp 29), none, false⟩]
def ac14_G4 : List AOper :=
 [⟨(some 32), .faddr 4 1 false (.tmp 1), (some (31, false)), false⟩,
 ⟨(some 33), .load 1 false (.tmp 32), (some (31, false)), false⟩,
 ⟨(some 34), .bi .len [25].toArray 3 [(.tmp 33)], (some (31, false)), false⟩,
 ⟨(some 35), .bin .gtr 3 (.tmp 34) (.const (.int .i64 20)), (some (31, false)), false⟩,
 ⟨(some 36), .pick (.tmp 31) (.const (.bool true)) (.tmp 35), none, false⟩]
def ac14_G5 : List AOper :=
 [⟨(some 38), .faddr 5 1 false (.tmp 1), (some (37, false)), false⟩,
 ⟨(some 39), .load 1 false (.tmp 38), (some (37, false)), false⟩,
 ⟨(some 40), .bi .len [26].toArray 3 [(.tmp 39)], (some (37, false)), false⟩,
 ⟨(some 41), .bin .gtr 3 (.tmp 40) (.const (.int .i64 16)), (some (37, false)), false⟩,
 ⟨(some 42), .pick (.tmp 37) (.const (.bool true)) (.tmp 41), none, false⟩]
def ac14_G6 : List AOper :=
 [⟨(some 44), .faddr 6 1 false (.tmp 1), (some (43, false)), false⟩,
 ⟨(some 45), .load 1 false (.tmp 44), (some (43, false)), false⟩,
 ⟨(some 46), .bi .len [27].toArray 3 [(.tmp 45)], (some (43, false)), false⟩,
 ⟨(some 47), .bin .gtr 3 (.tmp 46) (.const (.int .i64 16)), (some (43, false)), false⟩,
 ⟨(some 48), .pick (.tmp 43) (.const (.bool true)) (.tmp 47), none, false⟩]
def ac14_G7 : List AOper :=
 [⟨(some 50), .faddr 8 1 false (.tmp 1), (some (49, false)), false⟩,
 ⟨(some 51), .load 1 false (.tmp 50), (some (49, false)), false⟩,
 ⟨(some 52), .bi .len [29].toArray 3 [(.tmp 51)], (some (49, false)), false⟩,
 ⟨(some 53), .bin .gtr 3 (.tmp 52) (.const (.int .i64 16)), (some (49, false)), false⟩,
 ⟨(some 54), .pick (.tmp 49) (.const (.bool true)) (.tmp 53), none, false⟩]
def ac14_G8 : List AOper :=
 [⟨(some 71), .faddr 1 1 false (.tmp 1), (some (70, false)), false⟩,
 ⟨(some 72), .load 1 false (.tmp 71), (some (70, false)), false⟩,
 ⟨(some 73), .move (.tmp 3), (some (70, false)), false⟩,
 ⟨(some 74), .iaddr 2 (.tmp 72) (.tmp 73), (some (70, false)), false⟩,
 ⟨(some 75), .faddr 1 1 false (.tmp 74), (some (70, false)), false⟩,
 ⟨(some 76), .load 1 false (.tmp 75), (some (70, false)), false⟩,
 ⟨(some 77), .call (.func 44) [(.tmp 76)], (some (70, false)), false⟩,
 ⟨(some 78), .un .not (.tmp 77), (some (70, false)), false⟩,
 ⟨(some 79), .pick (.tmp 70) (.const (.bool true)) (.tmp 78), none, false⟩]
def ac14_L1 : AC :=
 .seq (.seq (.region false [⟨(some 55), .move (.tmp 3), none, false⟩,
 ⟨(some 56), .faddr 1 1 false (.tmp 1), none, false⟩,
 ⟨(some 57), .load 1 false (.tmp 56), none, false⟩,
 ⟨(some 58), .bi .len [22].toArray 3 [(.tmp 57)], none, false⟩,
 ⟨(some 59), .bin .lss 3 (.tmp 55) (.tmp 58), none, false⟩])
 (.cond (.tmp 59)
 (.skip)
 (.exit 0)))
 (.seq (.block 1 (.seq (.region false (⟨(some 62), .faddr 1 1 false (.tmp 1), none, false⟩ :: ⟨(some 63), .load 1 false (.tmp 62), none, false⟩ :: ⟨(some 64), .move (.tmp 3), none, false⟩ :: ⟨(some 65), .iaddr 2 (.tmp 63) (.tmp 64), none, false⟩ :: ⟨(some 66), .faddr 0 1 false (.tmp 65), none, false⟩ :: ⟨(some 67), .load 1 false (.tmp 66), none, false⟩ :: ⟨(some 68), .bi .len [9].toArray 3 [(.tmp 67)], none, false⟩ :: ⟨(some 69), .bin .gtr 3 (.tmp 68) (.const (.int .i64 40)), none, false⟩ :: ⟨(some 70), .move (.tmp 69), none, false⟩ :: (ac14_G8 ++ [])))
 (.cond (.tmp 79)
 (.seq (.region false [⟨(some 2), .move (.const (.bool false)), none, false⟩])
 (.ret))
 (.skip))))
 (.region false [⟨(some 60), .move (.tmp 3), none, false⟩,
 ⟨(some 61), .bin .add 3 (.tmp 60) (.const (.int .i64 1)), none, false⟩,
 ⟨(some 3), .move (.tmp 61), none, false⟩]))
def ac14_L2 : AC :=
 .seq (.seq (.region false [⟨(some 80), .move (.tmp 4), none, false⟩,
 ⟨(some 81), .faddr 3 1 false (.tmp 1), none, false⟩,
 ⟨(some 82), .load 1 false (.tmp 81), none, false⟩,
 ⟨(some 83), .bi .len [24].toArray 3 [(.tmp 82)], none, false⟩,
 ⟨(some 84), .bin .lss 3 (.tmp 80) (.tmp 83), none, false⟩])
 (.cond (.tmp 84)
 (.skip)
 (.exit 2)))
 (.seq (.block 3 (.seq (.region false [⟨(some 87), .faddr 3 1 false (.tmp 1), none, false⟩,
 ⟨(some 88), .load 1 false (.tmp 87), none, false⟩,
 ⟨(some 89), .move (.tmp 4), none, false⟩,
 ⟨(some 90), .iaddr 3 (.tmp 88) (.tmp 89), none, false⟩,
 ⟨(some 91), .faddr 0 1 false (.tmp 90), none, false⟩,
 ⟨(some 92), .load 1 false (.tmp 91), none, false⟩,
 ⟨(some 93), .bi .len [9].toArray 3 [(.tmp 92)], none, false⟩,
 ⟨(some 94), .bin .gtr 3 (.tmp 93) (.const (.int .i64 40)), none, false⟩])
 (.cond (.tmp 94)
 (.seq (.region false [⟨(some 2), .move (.const (.bool false)), none, false⟩])
 (.ret))
 (.skip))))
 (.region false [⟨(some 85), .move (.tmp 4), none, false⟩,
 ⟨(some 86), .bin .add 3 (.tmp 85) (.const (.int .i64 1)), none, false⟩,
 ⟨(some 4), .move (.tmp 86), none, false⟩]))
def ac14_L3 : AC :=
 .seq (.seq (.region false [⟨(some 95), .move (.tmp 5), none, false⟩,
 ⟨(some 96), .faddr 4 1 false (.tmp 1), none, false⟩,
 ⟨(some 97), .load 1 false (.tmp 96), none, false⟩,
 ⟨(some 98), .bi .len [25].toArray 3 [(.tmp 97)], none, false⟩,
 ⟨(some 99), .bin .lss 3 (.tmp 95) (.tmp 98), none, false⟩])
 (.cond (.tmp 99)
 (.skip)
 (.exit 4)))
 (.seq (.block 5 (.seq (.region false [⟨(some 102), .faddr 4 1 false (.tmp 1), none, false⟩,
 ⟨(some 103), .load 1 false (.tmp 102), none, false⟩,
 ⟨(some 104), .move (.tmp 5), none, false⟩,
 ⟨(some 105), .iaddr 3 (.tmp 103) (.tmp 104), none, false⟩,
 ⟨(some 106), .load 3 true (.tmp 105), none, false⟩,
 ⟨(some 107), .call (.func 45) [(.tmp 106)], none, false⟩,
 ⟨(some 108), .un .not (.tmp 107), none, false⟩])
 (.cond (.tmp 108)
 (.seq (.region false [⟨(some 2), .move (.const (.bool false)), none, false⟩])
 (.ret))
 (.skip))))
 (.region false [⟨(some 100), .move (.tmp 5), none, false⟩,
 ⟨(some 101), .bin .add 3 (.tmp 100) (.const (.int .i64 1)), none, false⟩,
 ⟨(some 5), .move (.tmp 101), none, false⟩]))
def ac14_G9 : List AOper :=
 [⟨(some 126), .faddr 1 1 false (.tmp 7), (some (125, false)), false⟩,
 ⟨(some 127), .load 1 false (.tmp 126), (some (125, false)), false⟩,
 ⟨(some 128), .bi .len [52].toArray 3 [(.tmp 127)], (some (125, false)), false⟩,
 ⟨(some 129), .bin .gtr 3 (.tmp 128) (.const (.int .i64 10)), (some (125, false)), false⟩,
 ⟨(some 130), .pick (.tmp 125) (.const (.bool true)) (.tmp 129), none, false⟩]
def ac14_G10 : List AOper :=
 [⟨(some 132), .faddr 2 1 false (.tmp 7), (some (131, false)), false⟩,
 ⟨(some 133), .load 1 false (.tmp 132), (some (131, false)), false⟩,
 ⟨(some 134), .bi .len [29].toArray 3 [(.tmp 133)], (some (131, false)), false⟩,
 ⟨(some 135), .bin .gtr 3 (.tmp 134) (.const (.int .i64 24)), (some (131, false)), false⟩,
 ⟨(some 136), .pick (.tmp 131) (.const (.bool true)) (.tmp 135), none, false⟩]
def ac14_G11 : List AOper :=
 [⟨(some 138), .faddr 3 2 true (.tmp 7), (some (137, false)), false⟩,
 ⟨(some 139), .faddr 1 1 false (.tmp 138), (some (137, false)), false⟩,
 ⟨(some 140), .load 1 false (.tmp 139), (some (137, false)), false⟩,
 ⟨(some 141), .bi .len [44].toArray 3 [(.tmp 140)], (some (137, false)), false⟩,
 ⟨(some 142), .bin .gtr 3 (.tmp 141) (.const (.int .i64 10)), (some (137, false)), false⟩,
 ⟨(some 143), .pick (.tmp 137) (.const (.bool true)) (.tmp 142), none, false⟩]
def ac14_L4 : AC :=
 .seq (.seq (.region false [⟨(some 109), .move (.tmp 6), none, false⟩,
 ⟨(some 110), .faddr 5 1 false (.tmp 1), none, false⟩,
 ⟨(some 111), .load 1 false (.tmp 110), none, false⟩,
 ⟨(some 112), .bi .len [26].toArray 3 [(.tmp 111)], none, false⟩,
 ⟨(some 113), .bin .lss 3 (.tmp 109) (.tmp 112), none, false⟩])
 (.cond (.tmp 113)
 (.skip)
 (.exit 6)))
 (.seq (.block 7 (.seq (.region false [⟨(some 116), .faddr 5 1 false (.tmp 1), none, false⟩,
 ⟨(some 117), .load 1 false (.tmp 116), none, false⟩,
 ⟨(some 118), .move (.tmp 6), none, false⟩,
 ⟨(some 119), .iaddr 6 (.tmp 117) (.tmp 118), none, false⟩,
 ⟨(some 120), .load 6 true (.tmp 119), none, false⟩,
 ⟨(some 7), .alloc true 56 (.agg [(.string ⟨[].toArray⟩), (.slice none 0 0), (.slice none 0 0), (.int .i64 0), (.slice none 0 0), (.int .i64 0)].toArray), none, false⟩,
 ⟨none, .store 6 (.tmp 7) (.tmp 120), none, false⟩])
 (.seq (.region false (⟨(some 121), .faddr 0 1 false (.tmp 7), none, false⟩ :: ⟨(some 122), .load 1 false (.tmp 121), none, false⟩ :: ⟨(some 123), .bi .len [9].toArray 3 [(.tmp 122)], none, false⟩ :: ⟨(some 124), .bin .gtr 3 (.tmp 123) (.const (.int .i64 40)), none, false⟩ :: ⟨(some 125), .move (.tmp 124), none, false⟩ :: (ac14_G9 ++ (⟨(some 131), .move (.tmp 130), none, false⟩ :: (ac14_G10 ++ (⟨(some 137), .move (.tmp 136), none, false⟩ :: (ac14_G11 ++ [])))))))
 (.cond (.tmp 143)
 (.seq (.region false [⟨(some 2), .move (.const (.bool false)), none, false⟩])
 (.ret))
 (.skip)))))
 (.region false [⟨(some 114), .move (.tmp 6), none, false⟩,
 ⟨(some 115), .bin .add 3 (.tmp 114) (.const (.int .i64 1)), none, false⟩,
 ⟨(some 6), .move (.tmp 115), none, false⟩]))
def ac14_G12 : List AOper :=
 [⟨(some 160), .faddr 6 1 false (.tmp 1), (some (159, false)), false⟩,
 ⟨(some 161), .load 1 false (.tmp 160), (some (159, false)), false⟩,
 ⟨(some 162), .move (.tmp 8), (some (159, false)), false⟩,
 ⟨(some 163), .iaddr 7 (.tmp 161) (.tmp 162), (some (159, false)), false⟩,
 ⟨(some 164), .faddr 1 1 false (.tmp 163), (some (159, false)), false⟩,
 ⟨(some 165), .load 1 false (.tmp 164), (some (159, false)), false⟩,
 ⟨(some 166), .bi .len [29].toArray 3 [(.tmp 165)], (some (159, false)), false⟩,
 ⟨(some 167), .bin .gtr 3 (.tmp 166) (.const (.int .i64 8)), (some (159, false)), false⟩,
 ⟨(some 168), .pick (.tmp 159) (.const (.bool true)) (.tmp 167), none, false⟩]
def ac14_G13 : List AOper :=
 [⟨(some 170), .faddr 6 1 false (.tmp 1), (some (169, false)), false⟩,
 ⟨(some 171), .load 1 false (.tmp 170), (some (169, false)), false⟩,
 ⟨(some 172), .move (.tmp 8), (some (169, false)), false⟩,
 ⟨(some 173), .iaddr 7 (.tmp 171) (.tmp 172), (some (169, false)), false⟩,
 ⟨(some 174), .faddr 5 1 false (.tmp 173), (some (169, false)), false⟩,
 ⟨(some 175), .load 1 false (.tmp 174), (some (169, false)), false⟩,
 ⟨(some 176), .bi .len [96].toArray 3 [(.tmp 175)], (some (169, false)), false⟩,
 ⟨(some 177), .bin .gtr 3 (.tmp 176) (.const (.int .i64 16)), (some (169, false)), false⟩,
 ⟨(some 178), .pick (.tmp 169) (.const (.bool true)) (.tmp 177), none, false⟩]
def ac14_L5 : AC :=
 .seq (.seq (.region false [⟨(some 144), .move (.tmp 8), none, false⟩,
 ⟨(some 145), .faddr 6 1 false (.tmp 1), none, false⟩,
 ⟨(some 146), .load 1 false (.tmp 145), none, false⟩,
 ⟨(some 147), .bi .len [27].toArray 3 [(.tmp 146)], none, false⟩,
 ⟨(some 148), .bin .lss 3 (.tmp 144) (.tmp 147), none, false⟩])
 (.cond (.tmp 148)
 (.skip)
 (.exit 8)))
 (.seq (.block 9 (.seq (.region false (⟨(some 151), .faddr 6 1 false (.tmp 1), none, false⟩ :: ⟨(some 152), .load 1 false (.tmp 151), none, false⟩ :: ⟨(some 153), .move (.tmp 8), none, false⟩ :: ⟨(some 154), .iaddr 7 (.tmp 152) (.tmp 153), none, false⟩ :: ⟨(some 155), .faddr 0 1 false (.tmp 154), none, false⟩ :: ⟨(some 156), .load 1 false (.tmp 155), none, false⟩ :: ⟨(some 157), .bi .len [9].toArray 3 [(.tmp 156)], none, false⟩ :: ⟨(some 158), .bin .gtr 3 (.tmp 157) (.const (.int .i64 40)), none, false⟩ :: ⟨(some 159), .move (.tmp 158), none, false⟩ :: (ac14_G12 ++ (⟨(some 169), .move (.tmp 168), none, false⟩ :: (ac14_G13 ++ [])))))
 (.cond (.tmp 178)
 (.seq (.region false [⟨(some 2), .move (.const (.bool false)), none, false⟩])
 (.ret))
 (.skip))))
 (.region false [⟨(some 149), .move (.tmp 8), none, false⟩,
 ⟨(some 150), .bin .add 3 (.tmp 149) (.const (.int .i64 1)), none, false⟩,
 ⟨(some 8), .move (.tmp 150), none, false⟩]))
/-- patchbay/patchbaylaw17.Small -/
def ac14 : AC :=
 .seq (.region false [⟨(some 1), .box false 31 (.tmp 0), none, false⟩,
 ⟨(some 2), .move (.const (.bool false)), none, false⟩])
 (.seq (.seq (.region false (⟨(some 9), .faddr 0 1 false (.tmp 1), none, false⟩ :: ⟨(some 10), .load 1 false (.tmp 9), none, false⟩ :: ⟨(some 11), .bi .len [9].toArray 3 [(.tmp 10)], none, false⟩ :: ⟨(some 12), .bin .gtr 3 (.tmp 11) (.const (.int .i64 40)), none, false⟩ :: ⟨(some 13), .move (.tmp 12), none, false⟩ :: (ac14_G1 ++ (⟨(some 19), .move (.tmp 18), none, false⟩ :: (ac14_G2 ++ (⟨(some 25), .move (.tmp 24), none, false⟩ :: (ac14_G3 ++ (⟨(some 31), .move (.tmp 30), none, false⟩ :: (ac14_G4 ++ (⟨(some 37), .move (.tmp 36), none, false⟩ :: (ac14_G5 ++ (⟨(some 43), .move (.tmp 42), none, false⟩ :: (ac14_G6 ++ (⟨(some 49), .move (.tmp 48), none, false⟩ :: (ac14_G7 ++ [])))))))))))))))
 (.cond (.tmp 54)
 (.seq (.region false [⟨(some 2), .move (.const (.bool false)), none, false⟩])
 (.ret))
 (.skip)))
 (.seq (.seq (.region false [⟨(some 3), .move (.const (.int .i64 0)), none, false⟩])
 (.block 0 (.loop ac14_L1)))
 (.seq (.seq (.region false [⟨(some 4), .move (.const (.int .i64 0)), none, false⟩])
 (.block 2 (.loop ac14_L2)))
 (.seq (.seq (.region false [⟨(some 5), .move (.const (.int .i64 0)), none, false⟩])
 (.block 4 (.loop ac14_L3)))
 (.seq (.seq (.region false [⟨(some 6), .move (.const (.int .i64 0)), none, false⟩])
 (.block 6 (.loop ac14_L4)))
 (.seq (.seq (.region false [⟨(some 8), .move (.const (.int .i64 0)), none, false⟩])
 (.block 8 (.loop ac14_L5)))
 (.seq (.region false [⟨(some 2), .move (.const (.bool true)), none, false⟩])
 (.ret))))))))
theorem text14 : FnText Try.prog 14 [7] 179 1 ac14 [(2, none)] :=
 ⟨Try.call14, follows, Try.f14, _, Try.func14, rfl, rfl, by decide, by kernel_rfl, by kernel_rfl⟩

def ac32_G1 : List AOper :=
 [⟨(some 8), .faddr 2 2 true (.tmp 1), (some (7, true)), false⟩,
 ⟨(some 9), .faddr 1 1 false (.tmp 8), (some (7, true)), false⟩,
 ⟨(some 10), .load 1 false (.tmp 9), (some (7, true)), false⟩,
 ⟨(some 11), .bi .len [44].toArray 3 [(.tmp 10)], (some (7, true)), false⟩,
 ⟨(some 12), .bin .leq 3 (.tmp 11) (.const (.int .i64 10)), (some (7, true)), false⟩,
 ⟨(some 13), .pick (.tmp 7) (.tmp 12) (.const (.bool false)), none, false⟩]
/-- patchbay/patchbaylaw23.Small -/
def ac32 : AC :=
 .seq (.region false [⟨(some 1), .box false 69 (.tmp 0), none, false⟩,
 ⟨(some 2), .move (.const (.bool false)), none, false⟩])
 (.seq (.region false (⟨(some 3), .faddr 0 1 false (.tmp 1), none, false⟩ :: ⟨(some 4), .load 1 false (.tmp 3), none, false⟩ :: ⟨(some 5), .bi .len [67].toArray 3 [(.tmp 4)], none, false⟩ :: ⟨(some 6), .bin .leq 3 (.tmp 5) (.const (.int .i64 10)), none, false⟩ :: ⟨(some 7), .move (.tmp 6), none, false⟩ :: (ac32_G1 ++ [⟨(some 2), .move (.tmp 13), none, false⟩])))
 (.ret))
theorem text32 : FnText Try.prog 32 [] 14 1 ac32 [(2, none)] :=
 ⟨Try.call32, follows, Try.f32, _, Try.func32, rfl, rfl, by decide, by kernel_rfl, by kernel_rfl⟩


/-- patchbay/patchbaylaw23.program -/
def ac62 : AC :=
 .seq (.region false [⟨(some 2), .alloc true 31 (.agg [(.string ⟨[].toArray⟩), (.slice none 0 0), (.slice none 0 0), (.slice none 0 0), (.slice none 0 0), (.slice none 0 0), (.slice none 0 0), (.slice none 0 0), (.slice none 0 0)].toArray), none, false⟩])
 (.seq (.region false [⟨(some 3), .build [(.string ⟨[].toArray⟩), (.int .i64 0)] [(0, 1, (.const (.string ⟨[105, 110].toArray⟩))), (1, 1, (.const (.int .i64 8)))], none, false⟩,
 ⟨(some 4), .bslice false 65 2 false [(.tmp 3)], none, false⟩,
 ⟨(some 5), .build [(.string ⟨[].toArray⟩), (.slice none 0 0), (.slice none 0 0)] [(0, 1, (.const (.string ⟨[110, 111, 112].toArray⟩)))], none, false⟩,
 ⟨(some 6), .bslice false 95 3 false [(.tmp 5)], none, false⟩,
 ⟨(some 7), .build [(.int .i64 0), (.int .i64 0)] [(0, 1, (.const (.int .i64 (-1))))], none, false⟩,
 ⟨(some 8), .move (.tmp 0), none, false⟩,
 ⟨(some 9), .build [(.int .i64 0), (.int .i64 0), (.int .i64 0)] [(0, 2, (.tmp 7)), (2, 1, (.tmp 8))], none, false⟩,
 ⟨(some 10), .bslice false 62 3 false [(.tmp 9)], none, false⟩,
 ⟨(some 11), .bslice false 3 1 false [(.const (.int .i64 0))], none, false⟩,
 ⟨(some 12), .build [(.string ⟨[].toArray⟩), (.slice none 0 0), (.slice none 0 0), (.int .i64 0), (.slice none 0 0), (.int .i64 0)] [(0, 1, (.const (.string ⟨[116].toArray⟩))), (1, 1, (.tmp 10)), (2, 1, (.tmp 11)), (5, 1, (.const (.int .i64 4)))], none, false⟩,
 ⟨(some 13), .bslice false 56 6 false [(.tmp 12)], none, false⟩,
 ⟨(some 14), .build [(.string ⟨[].toArray⟩), (.slice none 0 0), (.slice none 0 0), (.slice none 0 0), (.slice none 0 0), (.slice none 0 0), (.slice none 0 0), (.slice none 0 0), (.slice none 0 0)] [(2, 1, (.tmp 4)), (4, 1, (.tmp 6)), (5, 1, (.tmp 13))], none, false⟩,
 ⟨none, .store 9 (.tmp 2) (.tmp 14), none, false⟩])
 (.ret))
theorem text62 : FnText Try.prog 62 [2] 15 1 ac62 [(2, some (9, true))] :=
 ⟨Try.call62, follows, Try.f62, _, Try.func62, rfl, rfl, by decide, by kernel_rfl, by kernel_rfl⟩

def ac71_G1 : List AOper :=
 [⟨(some 6), .move (.tmp 0), (some (5, true)), false⟩,
 ⟨(some 7), .bin .leq 5 (.tmp 6) (.const (.int .u8 122)), (some (5, true)), false⟩,
 ⟨(some 8), .pick (.tmp 5) (.tmp 7) (.const (.bool false)), none, false⟩]
def ac71_G3 : List AOper :=
 [⟨(some 13), .move (.tmp 0), (some (12, true)), false⟩,
 ⟨(some 14), .bin .leq 5 (.tmp 13) (.const (.int .u8 90)), (some (12, true)), false⟩,
 ⟨(some 15), .pick (.tmp 12) (.tmp 14) (.const (.bool false)), (some (9, false)), false⟩]
def ac71_G2 : List AOper :=
 (⟨(some 10), .move (.tmp 0), (some (9, false)), false⟩ :: ⟨(some 11), .bin .geq 5 (.tmp 10) (.const (.int .u8 65)), (some (9, false)), false⟩ :: ⟨(some 12), .move (.tmp 11), (some (9, false)), false⟩ :: (ac71_G3 ++ [⟨(some 16), .pick (.tmp 9) (.const (.bool true)) (.tmp 15), none, false⟩]))
/-- patchbay/lexer.isLetter -/
def ac71 : AC :=
 .seq (.region false [⟨(some 2), .move (.const (.bool false)), none, false⟩])
 (.seq (.region false (⟨(some 3), .move (.tmp 0), none, false⟩ :: ⟨(some 4), .bin .geq 5 (.tmp 3) (.const (.int .u8 97)), none, false⟩ :: ⟨(some 5), .move (.tmp 4), none, false⟩ :: (ac71_G1 ++ (⟨(some 9), .move (.tmp 8), none, false⟩ :: (ac71_G2 ++ [⟨(some 2), .move (.tmp 16), none, false⟩])))))
 (.ret))
theorem text71 : FnText Try.prog 71 [] 17 1 ac71 [(2, none)] :=
 ⟨Try.call71, follows, Try.f71, _, Try.func71, rfl, rfl, by decide, by kernel_rfl, by kernel_rfl⟩

def ac72_G1 : List AOper :=
 [⟨(some 11), .move (.tmp 1), (some (10, true)), false⟩,
 ⟨(some 12), .move (.tmp 0), (some (10, true)), false⟩,
 ⟨(some 13), .move (.tmp 5), (some (10, true)), false⟩,
 ⟨(some 14), .indexS 9 (.tmp 12) (.tmp 13), (some (10, true)), false⟩,
 ⟨(some 15), .call (.tmp 11) [(.tmp 14)], (some (10, true)), false⟩,
 ⟨(some 16), .pick (.tmp 10) (.tmp 15) (.const (.bool false)), none, false⟩]
def ac72_L1 : AC :=
 .seq (.seq (.region false (⟨(some 6), .move (.tmp 5), none, false⟩ :: ⟨(some 7), .move (.tmp 0), none, false⟩ :: ⟨(some 8), .bi .len [9].toArray 3 [(.tmp 7)], none, false⟩ :: ⟨(some 9), .bin .lss 3 (.tmp 6) (.tmp 8), none, false⟩ :: ⟨(some 10), .move (.tmp 9), none, false⟩ :: (ac72_G1 ++ [])))
 (.cond (.tmp 16)
 (.skip)
 (.exit 0)))
 (.block 1 (.region false [⟨(some 17), .move (.tmp 5), none, false⟩,
 ⟨(some 18), .bin .add 3 (.tmp 17) (.const (.int .i64 1)), none, false⟩,
 ⟨(some 5), .move (.tmp 18), none, false⟩]))
/-- patchbay/lexer.extent -/
def ac72 : AC :=
 .seq (.region false [⟨(some 4), .move (.const (.int .i64 0)), none, false⟩])
 (.seq (.region false [⟨(some 5), .move (.const (.int .i64 0)), none, false⟩])
 (.seq (.block 0 (.loop ac72_L1))
 (.seq (.region false [⟨(some 19), .move (.tmp 5), none, false⟩,
 ⟨(some 4), .move (.tmp 19), none, false⟩])
 (.ret))))
theorem text72 : FnText Try.prog 72 [] 20 2 ac72 [(4, none)] :=
 ⟨Try.call72, follows, Try.f72, _, Try.func72, rfl, rfl, by decide, by kernel_rfl, by kernel_rfl⟩

def ac74_G1 : List AOper :=
 [⟨(some 6), .move (.tmp 0), (some (5, true)), false⟩,
 ⟨(some 7), .bin .leq 5 (.tmp 6) (.const (.int .u8 57)), (some (5, true)), false⟩,
 ⟨(some 8), .pick (.tmp 5) (.tmp 7) (.const (.bool false)), none, false⟩]
/-- patchbay/lexer.isDigit -/
def ac74 : AC :=
 .seq (.region false [⟨(some 2), .move (.const (.bool false)), none, false⟩])
 (.seq (.region false (⟨(some 3), .move (.tmp 0), none, false⟩ :: ⟨(some 4), .bin .geq 5 (.tmp 3) (.const (.int .u8 48)), none, false⟩ :: ⟨(some 5), .move (.tmp 4), none, false⟩ :: (ac74_G1 ++ [⟨(some 2), .move (.tmp 8), none, false⟩])))
 (.ret))
theorem text74 : FnText Try.prog 74 [] 9 1 ac74 [(2, none)] :=
 ⟨Try.call74, follows, Try.f74, _, Try.func74, rfl, rfl, by decide, by kernel_rfl, by kernel_rfl⟩

def ac73_G1 : List AOper :=
 [⟨(some 6), .move (.tmp 0), (some (5, false)), false⟩,
 ⟨(some 7), .call (.func 74) [(.tmp 6)], (some (5, false)), false⟩,
 ⟨(some 8), .pick (.tmp 5) (.const (.bool true)) (.tmp 7), none, false⟩]
def ac73_G2 : List AOper :=
 [⟨(some 10), .move (.tmp 0), (some (9, false)), false⟩,
 ⟨(some 11), .bin .eql 5 (.tmp 10) (.const (.int .u8 95)), (some (9, false)), false⟩,
 ⟨(some 12), .pick (.tmp 9) (.const (.bool true)) (.tmp 11), none, false⟩]
/-- patchbay/lexer.IsIdentifier$1 -/
def ac73 : AC :=
 .seq (.region false [⟨(some 2), .move (.const (.bool false)), none, false⟩])
 (.seq (.region false (⟨(some 3), .move (.tmp 0), none, false⟩ :: ⟨(some 4), .call (.func 71) [(.tmp 3)], none, false⟩ :: ⟨(some 5), .move (.tmp 4), none, false⟩ :: (ac73_G1 ++ (⟨(some 9), .move (.tmp 8), none, false⟩ :: (ac73_G2 ++ [⟨(some 2), .move (.tmp 12), none, false⟩])))))
 (.ret))
theorem text73 : FnText Try.prog 73 [] 13 1 ac73 [(2, none)] :=
 ⟨Try.call73, follows, Try.f73, _, Try.func73, rfl, rfl, by decide, by kernel_rfl, by kernel_rfl⟩

def ac46_G1 : List AOper :=
 [⟨(some 7), .move (.tmp 0), (some (6, false)), false⟩,
 ⟨(some 8), .bi .len [9].toArray 3 [(.tmp 7)], (some (6, false)), false⟩,
 ⟨(some 9), .bin .gtr 3 (.tmp 8) (.const (.int .i64 16)), (some (6, false)), false⟩,
 ⟨(some 10), .pick (.tmp 6) (.const (.bool true)) (.tmp 9), none, false⟩]
def ac46_G2 : List AOper :=
 [⟨(some 12), .move (.tmp 0), (some (11, false)), false⟩,
 ⟨(some 13), .indexS 9 (.tmp 12) (.const (.int .i64 0)), (some (11, false)), false⟩,
 ⟨(some 14), .call (.func 71) [(.tmp 13)], (some (11, false)), false⟩,
 ⟨(some 15), .un .not (.tmp 14), (some (11, false)), false⟩,
 ⟨(some 16), .pick (.tmp 11) (.const (.bool true)) (.tmp 15), none, false⟩]
/-- patchbay/lexer.IsIdentifier -/
def ac46 : AC :=
 .seq (.region false [⟨(some 2), .move (.const (.bool false)), none, false⟩])
 (.seq (.seq (.region false (⟨(some 3), .move (.tmp 0), none, false⟩ :: ⟨(some 4), .bi .len [9].toArray 3 [(.tmp 3)], none, false⟩ :: ⟨(some 5), .bin .eql 3 (.tmp 4) (.const (.int .i64 0)), none, false⟩ :: ⟨(some 6), .move (.tmp 5), none, false⟩ :: (ac46_G1 ++ (⟨(some 11), .move (.tmp 10), none, false⟩ :: (ac46_G2 ++ [])))))
 (.cond (.tmp 16)
 (.seq (.region false [⟨(some 2), .move (.const (.bool false)), none, false⟩])
 (.ret))
 (.skip)))
 (.seq (.region false [⟨(some 17), .move (.tmp 0), none, false⟩,
 ⟨(some 18), .call (.func 72) [(.tmp 17), (.func 73)], none, false⟩,
 ⟨(some 19), .move (.tmp 0), none, false⟩,
 ⟨(some 20), .bi .len [9].toArray 3 [(.tmp 19)], none, false⟩,
 ⟨(some 21), .bin .eql 3 (.tmp 18) (.tmp 20), none, false⟩,
 ⟨(some 2), .move (.tmp 21), none, false⟩])
 (.ret)))
theorem text46 : FnText Try.prog 46 [] 22 1 ac46 [(2, none)] :=
 ⟨Try.call46, follows, Try.f46, _, Try.func46, rfl, rfl, by decide, by kernel_rfl, by kernel_rfl⟩

def ac89_G1 : List AOper :=
 [⟨(some 9), .move (.tmp 1), (some (8, false)), false⟩,
 ⟨(some 10), .move (.tmp 0), (some (8, false)), false⟩,
 ⟨(some 11), .bi .len [22].toArray 3 [(.tmp 10)], (some (8, false)), false⟩,
 ⟨(some 12), .bin .geq 3 (.tmp 9) (.tmp 11), (some (8, false)), false⟩,
 ⟨(some 13), .pick (.tmp 8) (.const (.bool true)) (.tmp 12), none, false⟩]
/-- patchbay/env.at[patchbay/api.Header] -/
def ac89 : AC :=
 .seq (.region false [⟨(some 4), .alloc true 89 (.agg [(.string ⟨[].toArray⟩), (.slice none 0 0)].toArray), none, false⟩])
 (.seq (.region false [⟨(some 5), .alloc false 89 (.agg [(.string ⟨[].toArray⟩), (.slice none 0 0)].toArray), none, false⟩])
 (.seq (.seq (.region false (⟨(some 6), .move (.tmp 1), none, false⟩ :: ⟨(some 7), .bin .lss 3 (.tmp 6) (.const (.int .i64 0)), none, false⟩ :: ⟨(some 8), .move (.tmp 7), none, false⟩ :: (ac89_G1 ++ [])))
 (.cond (.tmp 13)
 (.seq (.region false [⟨(some 14), .load 2 true (.tmp 5), none, false⟩,
 ⟨none, .store 2 (.tmp 4) (.tmp 14), none, false⟩])
 (.ret))
 (.skip)))
 (.seq (.region false [⟨(some 15), .move (.tmp 0), none, false⟩,
 ⟨(some 16), .move (.tmp 1), none, false⟩,
 ⟨(some 17), .iaddr 2 (.tmp 15) (.tmp 16), none, false⟩,
 ⟨(some 18), .load 2 true (.tmp 17), none, false⟩,
 ⟨none, .store 2 (.tmp 4) (.tmp 18), none, false⟩])
 (.ret))))
theorem text89 : FnText Try.prog 89 [4] 19 2 ac89 [(4, some (2, true))] :=
 ⟨Try.call89, follows, Try.f89, _, Try.func89, rfl, rfl, by decide, by kernel_rfl, by kernel_rfl⟩


/-- patchbay/env.fields -/
def ac78 : AC :=
 .seq (.region false [⟨(some 2), .box false 31 (.tmp 0), none, false⟩,
 ⟨(some 4), .move (.const (.slice none 0 0)), none, false⟩])
 (.seq (.seq (.region false [⟨(some 5), .move (.tmp 1), none, false⟩,
 ⟨(some 6), .bin .eql 3 (.tmp 5) (.const (.int .i64 (-1))), none, false⟩])
 (.cond (.tmp 6)
 (.seq (.region false [⟨(some 7), .faddr 2 1 false (.tmp 2), none, false⟩,
 ⟨(some 8), .load 1 false (.tmp 7), none, false⟩,
 ⟨(some 4), .move (.tmp 8), none, false⟩])
 (.ret))
 (.skip)))
 (.seq (.region false [⟨(some 9), .faddr 1 1 false (.tmp 2), none, false⟩,
 ⟨(some 10), .load 1 false (.tmp 9), none, false⟩,
 ⟨(some 11), .move (.tmp 1), none, false⟩,
 ⟨(some 12), .call (.func 89) [(.tmp 10), (.tmp 11)], none, false⟩,
 ⟨(some 13), .field 1 1 false (.tmp 12), none, false⟩,
 ⟨(some 4), .move (.tmp 13), none, false⟩])
 (.ret)))
theorem text78 : FnText Try.prog 78 [] 14 2 ac78 [(4, none)] :=
 ⟨Try.call78, follows, Try.f78, _, Try.func78, rfl, rfl, by decide, by kernel_rfl, by kernel_rfl⟩

def ac77_G1 : List AOper :=
 [⟨(some 9), .move (.tmp 1), (some (8, false)), false⟩,
 ⟨(some 10), .move (.tmp 0), (some (8, false)), false⟩,
 ⟨(some 11), .bi .len [23].toArray 3 [(.tmp 10)], (some (8, false)), false⟩,
 ⟨(some 12), .bin .geq 3 (.tmp 9) (.tmp 11), (some (8, false)), false⟩,
 ⟨(some 13), .pick (.tmp 8) (.const (.bool true)) (.tmp 12), none, false⟩]
/-- patchbay/env.at[patchbay/api.Field] -/
def ac77 : AC :=
 .seq (.region false [⟨(some 4), .alloc true 65 (.agg [(.string ⟨[].toArray⟩), (.int .i64 0)].toArray), none, false⟩])
 (.seq (.region false [⟨(some 5), .alloc false 65 (.agg [(.string ⟨[].toArray⟩), (.int .i64 0)].toArray), none, false⟩])
 (.seq (.seq (.region false (⟨(some 6), .move (.tmp 1), none, false⟩ :: ⟨(some 7), .bin .lss 3 (.tmp 6) (.const (.int .i64 0)), none, false⟩ :: ⟨(some 8), .move (.tmp 7), none, false⟩ :: (ac77_G1 ++ [])))
 (.cond (.tmp 13)
 (.seq (.region false [⟨(some 14), .load 2 true (.tmp 5), none, false⟩,
 ⟨none, .store 2 (.tmp 4) (.tmp 14), none, false⟩])
 (.ret))
 (.skip)))
 (.seq (.region false [⟨(some 15), .move (.tmp 0), none, false⟩,
 ⟨(some 16), .move (.tmp 1), none, false⟩,
 ⟨(some 17), .iaddr 2 (.tmp 15) (.tmp 16), none, false⟩,
 ⟨(some 18), .load 2 true (.tmp 17), none, false⟩,
 ⟨none, .store 2 (.tmp 4) (.tmp 18), none, false⟩])
 (.ret))))
theorem text77 : FnText Try.prog 77 [4] 19 2 ac77 [(4, some (2, true))] :=
 ⟨Try.call77, follows, Try.f77, _, Try.func77, rfl, rfl, by decide, by kernel_rfl, by kernel_rfl⟩

def ac80_G1 : List AOper :=
 [⟨(some 14), .move (.tmp 4), (some (13, false)), false⟩,
 ⟨(some 15), .bin .gtr 3 (.tmp 14) (.const (.int .i64 32)), (some (13, false)), false⟩,
 ⟨(some 16), .pick (.tmp 13) (.const (.bool true)) (.tmp 15), none, false⟩]
def ac80_L1 : AC :=
 .seq (.region false [⟨(some 8), .bin .lss 3 (.tmp 7) (.tmp 6), none, false⟩])
 (.seq (.cond (.tmp 8)
 (.skip)
 (.exit 0))
 (.seq (.block 1 (.seq (.region false [⟨(some 9), .iaddr 1 (.tmp 5) (.tmp 7), none, false⟩,
 ⟨(some 10), .load 1 false (.tmp 9), none, false⟩,
 ⟨(some 4), .move (.tmp 10), none, false⟩])
 (.seq (.region false (⟨(some 11), .move (.tmp 4), none, false⟩ :: ⟨(some 12), .bin .lss 3 (.tmp 11) (.const (.int .i64 1)), none, false⟩ :: ⟨(some 13), .move (.tmp 12), none, false⟩ :: (ac80_G1 ++ [])))
 (.cond (.tmp 16)
 (.seq (.region false [⟨(some 2), .move (.const (.bool false)), none, false⟩])
 (.ret))
 (.skip)))))
 (.region false [⟨(some 17), .bin .add 3 (.tmp 7) (.const (.int .i64 1)), none, false⟩,
 ⟨(some 7), .move (.tmp 17), none, false⟩])))
/-- patchbay/bitvec.valid -/
def ac80 : AC :=
 .seq (.region false [⟨(some 2), .move (.const (.bool false)), none, false⟩])
 (.seq (.seq (.region false [⟨(some 5), .move (.tmp 0), none, false⟩,
 ⟨(some 6), .bi .len [29].toArray 3 [(.tmp 5)], none, false⟩,
 ⟨(some 7), .move (.const (.int .i64 0)), none, false⟩])
 (.block 0 (.loop ac80_L1)))
 (.seq (.region false [⟨(some 2), .move (.const (.bool true)), none, false⟩])
 (.ret)))
theorem text80 : FnText Try.prog 80 [] 18 1 ac80 [(2, none)] :=
 ⟨Try.call80, follows, Try.f80, _, Try.func80, rfl, rfl, by decide, by kernel_rfl, by kernel_rfl⟩


/-- patchbay/bitvec.Mask -/
def ac58 : AC :=
 .seq (.region false [⟨(some 2), .move (.const (.int .u32 0)), none, false⟩])
 (.seq (.seq (.region false [⟨(some 3), .move (.tmp 0), none, false⟩,
 ⟨(some 4), .bslice false 3 1 false [(.tmp 3)], none, false⟩,
 ⟨(some 5), .call (.func 80) [(.tmp 4)], none, false⟩,
 ⟨(some 6), .un .not (.tmp 5), none, false⟩])
 (.cond (.tmp 6)
 (.seq (.region false [⟨(some 2), .move (.const (.int .u32 0)), none, false⟩])
 (.ret))
 (.skip)))
 (.seq (.region false [⟨(some 7), .move (.tmp 0), none, false⟩,
 ⟨(some 8), .bin .sub 3 (.const (.int .i64 32)) (.tmp 7), none, false⟩,
 ⟨(some 9), .bin .shr 57 (.const (.int .u32 4294967295)) (.tmp 8), none, false⟩,
 ⟨(some 2), .move (.tmp 9), none, false⟩])
 (.ret)))
theorem text58 : FnText Try.prog 58 [] 10 1 ac58 [(2, none)] :=
 ⟨Try.call58, follows, Try.f58, _, Try.func58, rfl, rfl, by decide, by kernel_rfl, by kernel_rfl⟩


/-- patchbay/env.Width -/
def ac54 : AC :=
 .seq (.region false [⟨(some 2), .box false 31 (.tmp 0), none, false⟩,
 ⟨(some 3), .box false 60 (.tmp 1), none, false⟩,
 ⟨(some 4), .move (.const (.int .i64 0)), none, false⟩])
 (.seq (.region true [⟨(some 6), .load 9 true (.tmp 2), none, false⟩,
 ⟨(some 7), .faddr 0 1 false (.tmp 3), none, false⟩,
 ⟨(some 8), .load 1 false (.tmp 7), none, false⟩,
 ⟨(some 9), .call (.func 78) [(.tmp 6), (.tmp 8)], none, false⟩,
 ⟨(some 10), .faddr 1 1 false (.tmp 3), none, false⟩,
 ⟨(some 11), .load 1 false (.tmp 10), none, false⟩,
 ⟨(some 12), .call (.func 77) [(.tmp 9), (.tmp 11)], none, false⟩,
 ⟨(some 13), .field 1 1 false (.tmp 12), none, false⟩,
 ⟨(some 5), .move (.tmp 13), none, false⟩])
 (.seq (.seq (.region false [⟨(some 14), .move (.tmp 5), none, false⟩,
 ⟨(some 15), .call (.func 58) [(.tmp 14)], none, false⟩,
 ⟨(some 16), .bin .eql 57 (.tmp 15) (.const (.int .u32 0)), none, false⟩])
 (.cond (.tmp 16)
 (.seq (.region false [⟨(some 4), .move (.const (.int .i64 0)), none, false⟩])
 (.ret))
 (.skip)))
 (.seq (.region false [⟨(some 17), .move (.tmp 5), none, false⟩,
 ⟨(some 4), .move (.tmp 17), none, false⟩])
 (.ret))))
theorem text54 : FnText Try.prog 54 [] 18 2 ac54 [(4, none)] :=
 ⟨Try.call54, follows, Try.f54, _, Try.func54, rfl, rfl, by decide, by kernel_rfl, by kernel_rfl⟩

def ac47_L1 : AC :=
 .seq (.region false [⟨(some 15), .bin .lss 3 (.tmp 14) (.tmp 13), none, false⟩])
 (.seq (.cond (.tmp 15)
 (.skip)
 (.exit 0))
 (.seq (.block 1 (.seq (.region false [⟨(some 16), .move (.tmp 14), none, false⟩,
 ⟨(some 17), .iaddr 3 (.tmp 12) (.tmp 14), none, false⟩,
 ⟨(some 18), .load 3 true (.tmp 17), none, false⟩,
 ⟨(some 9), .alloc true 62 (.agg [(.int .i64 0), (.int .i64 0), (.int .i64 0)].toArray), none, false⟩,
 ⟨(some 8), .move (.tmp 16), none, false⟩,
 ⟨none, .store 3 (.tmp 9) (.tmp 18), none, false⟩])
 (.seq (.region false [⟨(some 19), .load 9 true (.tmp 2), none, false⟩,
 ⟨(some 20), .faddr 0 2 true (.tmp 9), none, false⟩,
 ⟨(some 21), .load 2 true (.tmp 20), none, false⟩,
 ⟨(some 22), .call (.func 54) [(.tmp 19), (.tmp 21)], none, false⟩,
 ⟨(some 10), .move (.tmp 22), none, false⟩])
 (.seq (.seq (.region false [⟨(some 23), .move (.tmp 10), none, false⟩,
 ⟨(some 24), .bin .eql 3 (.tmp 23) (.const (.int .i64 0)), none, false⟩])
 (.cond (.tmp 24)
 (.seq (.region false [⟨(some 25), .move (.tmp 8), none, false⟩,
 ⟨(some 4), .move (.tmp 25), none, false⟩,
 ⟨(some 5), .move (.const (.int .i64 8)), none, false⟩])
 (.ret))
 (.skip)))
 (.seq (.seq (.region false [⟨(some 26), .faddr 2 1 false (.tmp 9), none, false⟩,
 ⟨(some 27), .load 1 false (.tmp 26), none, false⟩])
 (.block 2 (.seq (.region false [⟨(some 30), .bin .eql 3 (.tmp 27) (.const (.int .i64 2)), none, false⟩,
 ⟨(some 29), .move (.tmp 30), none, false⟩])
 (.cond (.tmp 29)
 (.region false [⟨(some 31), .move (.tmp 6), none, false⟩,
 ⟨(some 32), .bin .add 3 (.tmp 31) (.const (.int .i64 1)), none, false⟩,
 ⟨(some 6), .move (.tmp 32), none, false⟩])
 (.seq (.seq (.region false [⟨(some 34), .bin .eql 3 (.tmp 27) (.const (.int .i64 1)), none, false⟩,
 ⟨(some 33), .move (.tmp 34), none, false⟩])
 (.cond (.tmp 33)
 (.skip)
 (.region false [⟨(some 35), .bin .eql 3 (.tmp 27) (.const (.int .i64 3)), none, false⟩,
 ⟨(some 33), .move (.tmp 35), none, false⟩])))
 (.cond (.tmp 33)
 (.skip)
 (.seq (.region false [⟨(some 28), .move (.tmp 8), none, false⟩,
 ⟨(some 4), .move (.tmp 28), none, false⟩,
 ⟨(some 5), .move (.const (.int .i64 11)), none, false⟩])
 (.ret))))))))
 (.region false [⟨(some 36), .move (.tmp 7), none, false⟩,
 ⟨(some 37), .move (.tmp 10), none, false⟩,
 ⟨(some 38), .bin .add 3 (.tmp 36) (.tmp 37), none, false⟩,
 ⟨(some 7), .move (.tmp 38), none, false⟩]))))))
 (.region false [⟨(some 39), .bin .add 3 (.tmp 14) (.const (.int .i64 1)), none, false⟩,
 ⟨(some 14), .move (.tmp 39), none, false⟩])))
/-- patchbay/table.checkKeys -/
def ac47 : AC :=
 .seq (.region false [⟨(some 2), .box false 31 (.tmp 0), none, false⟩,
 ⟨(some 3), .box false 56 (.tmp 1), none, false⟩,
 ⟨(some 4), .move (.const (.int .i64 0)), none, false⟩,
 ⟨(some 5), .move (.const (.int .i64 0)), none, false⟩])
 (.seq (.region false [⟨(some 6), .move (.const (.int .i64 0)), none, false⟩,
 ⟨(some 7), .move (.const (.int .i64 0)), none, false⟩])
 (.seq (.seq (.region false [⟨(some 11), .faddr 1 1 false (.tmp 3), none, false⟩,
 ⟨(some 12), .load 1 false (.tmp 11), none, false⟩,
 ⟨(some 13), .bi .len [52].toArray 3 [(.tmp 12)], none, false⟩,
 ⟨(some 14), .move (.const (.int .i64 0)), none, false⟩])
 (.block 0 (.loop ac47_L1)))
 (.seq (.seq (.region false [⟨(some 40), .move (.tmp 6), none, false⟩,
 ⟨(some 41), .bin .gtr 3 (.tmp 40) (.const (.int .i64 1)), none, false⟩])
 (.cond (.tmp 41)
 (.seq (.region false [⟨(some 4), .move (.const (.int .i64 (-2))), none, false⟩,
 ⟨(some 5), .move (.const (.int .i64 7)), none, false⟩])
 (.ret))
 (.skip)))
 (.seq (.seq (.region false [⟨(some 42), .move (.tmp 7), none, false⟩,
 ⟨(some 43), .bin .gtr 3 (.tmp 42) (.const (.int .i64 64)), none, false⟩])
 (.cond (.tmp 43)
 (.seq (.region false [⟨(some 4), .move (.const (.int .i64 (-2))), none, false⟩,
 ⟨(some 5), .move (.const (.int .i64 10)), none, false⟩])
 (.ret))
 (.skip)))
 (.seq (.region false [⟨(some 4), .move (.const (.int .i64 0)), none, false⟩,
 ⟨(some 5), .move (.const (.int .i64 0)), none, false⟩])
 (.ret))))))
theorem text47 : FnText Try.prog 47 [9] 44 2 ac47 [(4, none), (5, none)] :=
 ⟨Try.call47, follows, Try.f47, _, Try.func47, rfl, rfl, by decide, by kernel_rfl, by kernel_rfl⟩

def ac83_G1 : List AOper :=
 [⟨(some 9), .move (.tmp 0), (some (8, true)), false⟩,
 ⟨(some 10), .move (.tmp 1), (some (8, true)), false⟩,
 ⟨(some 11), .call (.func 58) [(.tmp 10)], (some (8, true)), false⟩,
 ⟨(some 12), .bin .leq 57 (.tmp 9) (.tmp 11), (some (8, true)), false⟩,
 ⟨(some 13), .pick (.tmp 8) (.tmp 12) (.const (.bool false)), none, false⟩]
/-- patchbay/bitvec.Fits -/
def ac83 : AC :=
 .seq (.region false [⟨(some 4), .move (.const (.bool false)), none, false⟩])
 (.seq (.region false (⟨(some 5), .move (.tmp 1), none, false⟩ :: ⟨(some 6), .bslice false 3 1 false [(.tmp 5)], none, false⟩ :: ⟨(some 7), .call (.func 80) [(.tmp 6)], none, false⟩ :: ⟨(some 8), .move (.tmp 7), none, false⟩ :: (ac83_G1 ++ [⟨(some 4), .move (.tmp 13), none, false⟩])))
 (.ret))
theorem text83 : FnText Try.prog 83 [] 14 2 ac83 [(4, none)] :=
 ⟨Try.call83, follows, Try.f83, _, Try.func83, rfl, rfl, by decide, by kernel_rfl, by kernel_rfl⟩

def ac64_G1 : List AOper :=
 [⟨(some 12), .faddr 0 1 false (.tmp 3), (some (11, false)), false⟩,
 ⟨(some 13), .load 1 false (.tmp 12), (some (11, false)), false⟩,
 ⟨(some 14), .faddr 4 1 false (.tmp 2), (some (11, false)), false⟩,
 ⟨(some 15), .load 1 false (.tmp 14), (some (11, false)), false⟩,
 ⟨(some 16), .bi .len [25].toArray 3 [(.tmp 15)], (some (11, false)), false⟩,
 ⟨(some 17), .bin .geq 3 (.tmp 13) (.tmp 16), (some (11, false)), false⟩,
 ⟨(some 18), .pick (.tmp 11) (.const (.bool true)) (.tmp 17), none, false⟩]
def ac64_L1 : AC :=
 .seq (.region false [⟨(some 36), .bin .lss 3 (.tmp 35) (.tmp 34), none, false⟩])
 (.seq (.cond (.tmp 36)
 (.skip)
 (.exit 0))
 (.seq (.block 1 (.seq (.region false [⟨(some 37), .move (.tmp 35), none, false⟩,
 ⟨(some 38), .iaddr 1 (.tmp 33) (.tmp 35), none, false⟩,
 ⟨(some 39), .load 1 false (.tmp 38), none, false⟩,
 ⟨(some 6), .move (.tmp 37), none, false⟩,
 ⟨(some 7), .move (.tmp 39), none, false⟩])
 (.seq (.region false [⟨(some 40), .move (.tmp 7), none, false⟩,
 ⟨(some 41), .move (.tmp 5), none, false⟩,
 ⟨(some 42), .move (.tmp 6), none, false⟩,
 ⟨(some 43), .iaddr 2 (.tmp 41) (.tmp 42), none, false⟩,
 ⟨(some 44), .faddr 1 1 false (.tmp 43), none, false⟩,
 ⟨(some 45), .load 1 false (.tmp 44), none, false⟩,
 ⟨(some 46), .call (.func 83) [(.tmp 40), (.tmp 45)], none, false⟩,
 ⟨(some 47), .un .not (.tmp 46), none, false⟩])
 (.cond (.tmp 47)
 (.seq (.region false [⟨(some 4), .move (.const (.int .i64 9)), none, false⟩])
 (.ret))
 (.skip)))))
 (.region false [⟨(some 48), .bin .add 3 (.tmp 35) (.const (.int .i64 1)), none, false⟩,
 ⟨(some 35), .move (.tmp 48), none, false⟩])))
/-- patchbay/action.CheckCall -/
def ac64 : AC :=
 .seq (.region false [⟨(some 2), .box false 31 (.tmp 0), none, false⟩,
 ⟨(some 3), .box false 54 (.tmp 1), none, false⟩,
 ⟨(some 4), .move (.const (.int .i64 0)), none, false⟩])
 (.seq (.seq (.region false (⟨(some 8), .faddr 0 1 false (.tmp 3), none, false⟩ :: ⟨(some 9), .load 1 false (.tmp 8), none, false⟩ :: ⟨(some 10), .bin .lss 3 (.tmp 9) (.const (.int .i64 0)), none, false⟩ :: ⟨(some 11), .move (.tmp 10), none, false⟩ :: (ac64_G1 ++ [])))
 (.cond (.tmp 18)
 (.seq (.region false [⟨(some 4), .move (.const (.int .i64 8)), none, false⟩])
 (.ret))
 (.skip)))
 (.seq (.region false [⟨(some 19), .faddr 4 1 false (.tmp 2), none, false⟩,
 ⟨(some 20), .load 1 false (.tmp 19), none, false⟩,
 ⟨(some 21), .faddr 0 1 false (.tmp 3), none, false⟩,
 ⟨(some 22), .load 1 false (.tmp 21), none, false⟩,
 ⟨(some 23), .iaddr 3 (.tmp 20) (.tmp 22), none, false⟩,
 ⟨(some 24), .faddr 1 1 false (.tmp 23), none, false⟩,
 ⟨(some 25), .load 1 false (.tmp 24), none, false⟩,
 ⟨(some 5), .move (.tmp 25), none, false⟩])
 (.seq (.seq (.region false [⟨(some 26), .faddr 1 1 false (.tmp 3), none, false⟩,
 ⟨(some 27), .load 1 false (.tmp 26), none, false⟩,
 ⟨(some 28), .bi .len [44].toArray 3 [(.tmp 27)], none, false⟩,
 ⟨(some 29), .move (.tmp 5), none, false⟩,
 ⟨(some 30), .bi .len [23].toArray 3 [(.tmp 29)], none, false⟩,
 ⟨(some 31), .bin .neq 3 (.tmp 28) (.tmp 30), none, false⟩])
 (.cond (.tmp 31)
 (.seq (.region false [⟨(some 4), .move (.const (.int .i64 2)), none, false⟩])
 (.ret))
 (.skip)))
 (.seq (.seq (.region false [⟨(some 32), .faddr 1 1 false (.tmp 3), none, false⟩,
 ⟨(some 33), .load 1 false (.tmp 32), none, false⟩,
 ⟨(some 34), .bi .len [44].toArray 3 [(.tmp 33)], none, false⟩,
 ⟨(some 35), .move (.const (.int .i64 0)), none, false⟩])
 (.block 0 (.loop ac64_L1)))
 (.seq (.region false [⟨(some 4), .move (.const (.int .i64 0)), none, false⟩])
 (.ret))))))
theorem text64 : FnText Try.prog 64 [] 49 2 ac64 [(4, none)] :=
 ⟨Try.call64, follows, Try.f64, _, Try.func64, rfl, rfl, by decide, by kernel_rfl, by kernel_rfl⟩

def ac48_G1 : List AOper :=
 [⟨(some 19), .move (.tmp 7), (some (18, false)), false⟩,
 ⟨(some 20), .faddr 4 1 false (.tmp 2), (some (18, false)), false⟩,
 ⟨(some 21), .load 1 false (.tmp 20), (some (18, false)), false⟩,
 ⟨(some 22), .bi .len [25].toArray 3 [(.tmp 21)], (some (18, false)), false⟩,
 ⟨(some 23), .bin .geq 3 (.tmp 19) (.tmp 22), (some (18, false)), false⟩,
 ⟨(some 24), .pick (.tmp 18) (.const (.bool true)) (.tmp 23), none, false⟩]
def ac48_L1 : AC :=
 .seq (.region false [⟨(some 13), .bin .lss 3 (.tmp 12) (.tmp 11), none, false⟩])
 (.seq (.cond (.tmp 13)
 (.skip)
 (.exit 0))
 (.seq (.block 1 (.seq (.region false [⟨(some 14), .iaddr 1 (.tmp 10) (.tmp 12), none, false⟩,
 ⟨(some 15), .load 1 false (.tmp 14), none, false⟩,
 ⟨(some 7), .move (.tmp 15), none, false⟩])
 (.seq (.seq (.region false (⟨(some 16), .move (.tmp 7), none, false⟩ :: ⟨(some 17), .bin .lss 3 (.tmp 16) (.const (.int .i64 0)), none, false⟩ :: ⟨(some 18), .move (.tmp 17), none, false⟩ :: (ac48_G1 ++ [])))
 (.cond (.tmp 24)
 (.seq (.region false [⟨(some 4), .move (.const (.int .i64 8)), none, false⟩])
 (.ret))
 (.skip)))
 (.seq (.seq (.region false [⟨(some 25), .move (.tmp 5), none, false⟩,
 ⟨(some 26), .move (.tmp 7), none, false⟩,
 ⟨(some 27), .lookup 118 3 4 (.bool false) false (.tmp 25) (.tmp 26), none, false⟩])
 (.cond (.tmp 27)
 (.seq (.region false [⟨(some 4), .move (.const (.int .i64 7)), none, false⟩])
 (.ret))
 (.skip)))
 (.region false [⟨(some 28), .move (.tmp 5), none, false⟩,
 ⟨(some 29), .move (.tmp 7), none, false⟩,
 ⟨none, .mapUpdate 118 3 (.tmp 28) (.tmp 29) (.const (.bool true)), none, false⟩])))))
 (.region false [⟨(some 30), .bin .add 3 (.tmp 12) (.const (.int .i64 1)), none, false⟩,
 ⟨(some 12), .move (.tmp 30), none, false⟩])))
/-- patchbay/table.checkActions -/
def ac48 : AC :=
 .seq (.region false [⟨(some 2), .box false 31 (.tmp 0), none, false⟩,
 ⟨(some 3), .box false 56 (.tmp 1), none, false⟩,
 ⟨(some 4), .move (.const (.int .i64 0)), none, false⟩])
 (.seq (.region false [⟨(some 8), .mkMap 118, none, false⟩,
 ⟨(some 5), .move (.tmp 8), none, false⟩])
 (.seq (.seq (.region false [⟨(some 9), .faddr 2 1 false (.tmp 3), none, false⟩,
 ⟨(some 10), .load 1 false (.tmp 9), none, false⟩,
 ⟨(some 11), .bi .len [29].toArray 3 [(.tmp 10)], none, false⟩,
 ⟨(some 12), .move (.const (.int .i64 0)), none, false⟩])
 (.block 0 (.loop ac48_L1)))
 (.seq (.seq (.region false [⟨(some 31), .move (.tmp 5), none, false⟩,
 ⟨(some 32), .faddr 3 2 true (.tmp 3), none, false⟩,
 ⟨(some 33), .faddr 0 1 false (.tmp 32), none, false⟩,
 ⟨(some 34), .load 1 false (.tmp 33), none, false⟩,
 ⟨(some 35), .lookup 118 3 4 (.bool false) false (.tmp 31) (.tmp 34), none, false⟩,
 ⟨(some 36), .un .not (.tmp 35), none, false⟩])
 (.cond (.tmp 36)
 (.seq (.region false [⟨(some 4), .move (.const (.int .i64 8)), none, false⟩])
 (.ret))
 (.skip)))
 (.seq (.region false [⟨(some 37), .load 9 true (.tmp 2), none, false⟩,
 ⟨(some 38), .faddr 3 2 true (.tmp 3), none, false⟩,
 ⟨(some 39), .load 2 true (.tmp 38), none, false⟩,
 ⟨(some 40), .call (.func 64) [(.tmp 37), (.tmp 39)], none, false⟩,
 ⟨(some 4), .move (.tmp 40), none, false⟩])
 (.ret)))))
theorem text48 : FnText Try.prog 48 [] 41 2 ac48 [(4, none)] :=
 ⟨Try.call48, follows, Try.f48, _, Try.func48, rfl, rfl, by decide, by kernel_rfl, by kernel_rfl⟩

def ac16_G1 : List AOper :=
 [⟨(some 10), .move (.tmp 1), (some (9, false)), false⟩,
 ⟨(some 11), .faddr 5 1 false (.tmp 2), (some (9, false)), false⟩,
 ⟨(some 12), .load 1 false (.tmp 11), (some (9, false)), false⟩,
 ⟨(some 13), .bi .len [26].toArray 3 [(.tmp 12)], (some (9, false)), false⟩,
 ⟨(some 14), .bin .geq 3 (.tmp 10) (.tmp 13), (some (9, false)), false⟩,
 ⟨(some 15), .pick (.tmp 9) (.const (.bool true)) (.tmp 14), none, false⟩]
def ac16_G2 : List AOper :=
 [⟨(some 32), .faddr 2 1 false (.tmp 6), (some (31, false)), false⟩,
 ⟨(some 33), .load 1 false (.tmp 32), (some (31, false)), false⟩,
 ⟨(some 34), .bi .len [29].toArray 3 [(.tmp 33)], (some (31, false)), false⟩,
 ⟨(some 35), .bin .gtr 3 (.tmp 34) (.const (.int .i64 16)), (some (31, false)), false⟩,
 ⟨(some 36), .pick (.tmp 31) (.const (.bool true)) (.tmp 35), none, false⟩]
def ac16_G3 : List AOper :=
 [⟨(some 42), .faddr 5 1 false (.tmp 6), (some (41, false)), false⟩,
 ⟨(some 43), .load 1 false (.tmp 42), (some (41, false)), false⟩,
 ⟨(some 44), .bin .gtr 3 (.tmp 43) (.const (.int .i64 256)), (some (41, false)), false⟩,
 ⟨(some 45), .pick (.tmp 41) (.const (.bool true)) (.tmp 44), none, false⟩]
/-- patchbay/table.Check -/
def ac16 : AC :=
 .seq (.region false [⟨(some 2), .box false 31 (.tmp 0), none, false⟩,
 ⟨(some 4), .move (.const (.int .i64 0)), none, false⟩,
 ⟨(some 5), .move (.const (.int .i64 0)), none, false⟩])
 (.seq (.seq (.region false (⟨(some 7), .move (.tmp 1), none, false⟩ :: ⟨(some 8), .bin .lss 3 (.tmp 7) (.const (.int .i64 0)), none, false⟩ :: ⟨(some 9), .move (.tmp 8), none, false⟩ :: (ac16_G1 ++ [])))
 (.cond (.tmp 15)
 (.seq (.region false [⟨(some 4), .move (.const (.int .i64 (-1))), none, false⟩,
 ⟨(some 5), .move (.const (.int .i64 8)), none, false⟩])
 (.ret))
 (.skip)))
 (.seq (.region false [⟨(some 16), .faddr 5 1 false (.tmp 2), none, false⟩,
 ⟨(some 17), .load 1 false (.tmp 16), none, false⟩,
 ⟨(some 18), .move (.tmp 1), none, false⟩,
 ⟨(some 19), .iaddr 6 (.tmp 17) (.tmp 18), none, false⟩,
 ⟨(some 20), .load 6 true (.tmp 19), none, false⟩,
 ⟨(some 6), .alloc true 56 (.agg [(.string ⟨[].toArray⟩), (.slice none 0 0), (.slice none 0 0), (.int .i64 0), (.slice none 0 0), (.int .i64 0)].toArray), none, false⟩,
 ⟨none, .store 6 (.tmp 6) (.tmp 20), none, false⟩])
 (.seq (.block 0 (.seq (.region false [⟨(some 22), .faddr 0 1 false (.tmp 6), none, false⟩,
 ⟨(some 23), .load 1 false (.tmp 22), none, false⟩,
 ⟨(some 24), .call (.func 46) [(.tmp 23)], none, false⟩,
 ⟨(some 25), .un .not (.tmp 24), none, false⟩,
 ⟨(some 21), .move (.tmp 25), none, false⟩])
 (.cond (.tmp 21)
 (.seq (.region false [⟨(some 4), .move (.const (.int .i64 (-1))), none, false⟩,
 ⟨(some 5), .move (.const (.int .i64 6)), none, false⟩])
 (.ret))
 (.seq (.region false (⟨(some 27), .faddr 1 1 false (.tmp 6), none, false⟩ :: ⟨(some 28), .load 1 false (.tmp 27), none, false⟩ :: ⟨(some 29), .bi .len [52].toArray 3 [(.tmp 28)], none, false⟩ :: ⟨(some 30), .bin .gtr 3 (.tmp 29) (.const (.int .i64 6)), none, false⟩ :: ⟨(some 31), .move (.tmp 30), none, false⟩ :: (ac16_G2 ++ [⟨(some 26), .move (.tmp 36), none, false⟩])))
 (.cond (.tmp 26)
 (.seq (.region false [⟨(some 4), .move (.const (.int .i64 (-1))), none, false⟩,
 ⟨(some 5), .move (.const (.int .i64 12)), none, false⟩])
 (.ret))
 (.seq (.region false (⟨(some 38), .faddr 5 1 false (.tmp 6), none, false⟩ :: ⟨(some 39), .load 1 false (.tmp 38), none, false⟩ :: ⟨(some 40), .bin .lss 3 (.tmp 39) (.const (.int .i64 1)), none, false⟩ :: ⟨(some 41), .move (.tmp 40), none, false⟩ :: (ac16_G3 ++ [⟨(some 37), .move (.tmp 45), none, false⟩])))
 (.cond (.tmp 37)
 (.seq (.region false [⟨(some 4), .move (.const (.int .i64 (-1))), none, false⟩,
 ⟨(some 5), .move (.const (.int .i64 9)), none, false⟩])
 (.ret))
 (.skip))))))))
 (.seq (.seq (.region false [⟨(some 47), .load 9 true (.tmp 2), none, false⟩,
 ⟨(some 48), .load 6 true (.tmp 6), none, false⟩,
 ⟨(some 49), .call (.func 47) [(.tmp 47), (.tmp 48)], none, false⟩,
 ⟨(some 46), .move (.tmp 49), none, false⟩,
 ⟨(some 50), .extract (.tmp 46) 0, none, false⟩,
 ⟨(some 51), .extract (.tmp 46) 1, none, false⟩,
 ⟨(some 4), .move (.tmp 50), none, false⟩,
 ⟨(some 5), .move (.tmp 51), none, false⟩])
 (.seq (.region false [⟨(some 52), .move (.tmp 5), none, false⟩,
 ⟨(some 53), .bin .neq 34 (.tmp 52) (.const (.int .i64 0)), none, false⟩])
 (.cond (.tmp 53)
 (.seq (.region false [⟨(some 54), .move (.tmp 4), none, false⟩,
 ⟨(some 55), .move (.tmp 5), none, false⟩,
 ⟨(some 4), .move (.tmp 54), none, false⟩,
 ⟨(some 5), .move (.tmp 55), none, false⟩])
 (.ret))
 (.skip))))
 (.seq (.seq (.region false [⟨(some 56), .load 9 true (.tmp 2), none, false⟩,
 ⟨(some 57), .load 6 true (.tmp 6), none, false⟩,
 ⟨(some 58), .call (.func 48) [(.tmp 56), (.tmp 57)], none, false⟩,
 ⟨(some 5), .move (.tmp 58), none, false⟩])
 (.seq (.region false [⟨(some 59), .move (.tmp 5), none, false⟩,
 ⟨(some 60), .bin .neq 34 (.tmp 59) (.const (.int .i64 0)), none, false⟩])
 (.cond (.tmp 60)
 (.seq (.region false [⟨(some 61), .move (.tmp 5), none, false⟩,
 ⟨(some 4), .move (.const (.int .i64 (-3))), none, false⟩,
 ⟨(some 5), .move (.tmp 61), none, false⟩])
 (.ret))
 (.skip))))
 (.seq (.region false [⟨(some 4), .move (.const (.int .i64 0)), none, false⟩,
 ⟨(some 5), .move (.const (.int .i64 0)), none, false⟩])
 (.ret)))))))
theorem text16 : FnText Try.prog 16 [6] 62 2 ac16 [(4, none), (5, none)] :=
 ⟨Try.call16, follows, Try.f16, _, Try.func16, rfl, rfl, by decide, by kernel_rfl, by kernel_rfl⟩


/-- patchbay/table.valid -/
def ac52 : AC :=
 .seq (.region false [⟨(some 2), .box false 31 (.tmp 0), none, false⟩,
 ⟨(some 4), .move (.const (.bool false)), none, false⟩])
 (.seq (.region false [⟨(some 8), .load 9 true (.tmp 2), none, false⟩,
 ⟨(some 9), .move (.tmp 1), none, false⟩,
 ⟨(some 10), .call (.func 16) [(.tmp 8), (.tmp 9)], none, false⟩,
 ⟨(some 7), .move (.tmp 10), none, false⟩,
 ⟨(some 11), .extract (.tmp 7) 0, none, false⟩,
 ⟨(some 12), .extract (.tmp 7) 1, none, false⟩,
 ⟨(some 5), .move (.tmp 11), none, false⟩,
 ⟨(some 6), .move (.tmp 12), none, false⟩])
 (.seq (.region false [⟨(some 13), .move (.tmp 6), none, false⟩,
 ⟨(some 14), .bin .eql 34 (.tmp 13) (.const (.int .i64 0)), none, false⟩,
 ⟨(some 4), .move (.tmp 14), none, false⟩])
 (.ret)))
theorem text52 : FnText Try.prog 52 [] 15 2 ac52 [(4, none)] :=
 ⟨Try.call52, follows, Try.f52, _, Try.func52, rfl, rfl, by decide, by kernel_rfl, by kernel_rfl⟩

def ac21_L1 : AC :=
 .seq (.region false [⟨(some 20), .bin .lss 3 (.tmp 19) (.tmp 18), none, false⟩])
 (.seq (.cond (.tmp 20)
 (.skip)
 (.exit 0))
 (.seq (.block 1 (.seq (.region false [⟨(some 21), .iaddr 3 (.tmp 17) (.tmp 19), none, false⟩,
 ⟨(some 22), .load 3 true (.tmp 21), none, false⟩,
 ⟨(some 7), .alloc true 62 (.agg [(.int .i64 0), (.int .i64 0), (.int .i64 0)].toArray), none, false⟩,
 ⟨none, .store 3 (.tmp 7) (.tmp 22), none, false⟩])
 (.region false [⟨(some 23), .move (.tmp 5), none, false⟩,
 ⟨(some 24), .load 9 true (.tmp 2), none, false⟩,
 ⟨(some 25), .faddr 0 2 true (.tmp 7), none, false⟩,
 ⟨(some 26), .load 2 true (.tmp 25), none, false⟩,
 ⟨(some 27), .call (.func 54) [(.tmp 24), (.tmp 26)], none, false⟩,
 ⟨(some 28), .bslice false 3 1 false [(.tmp 27)], none, false⟩,
 ⟨(some 29), .append 29 3 1 8 (.tmp 23) (.tmp 28), none, false⟩,
 ⟨(some 5), .move (.tmp 29), none, false⟩])))
 (.region false [⟨(some 30), .bin .add 3 (.tmp 19) (.const (.int .i64 1)), none, false⟩,
 ⟨(some 19), .move (.tmp 30), none, false⟩])))
/-- patchbay/table.Widths -/
def ac21 : AC :=
 .seq (.region false [⟨(some 2), .box false 31 (.tmp 0), none, false⟩,
 ⟨(some 4), .move (.const (.slice none 0 0)), none, false⟩])
 (.seq (.seq (.region false [⟨(some 8), .load 9 true (.tmp 2), none, false⟩,
 ⟨(some 9), .move (.tmp 1), none, false⟩,
 ⟨(some 10), .call (.func 52) [(.tmp 8), (.tmp 9)], none, false⟩,
 ⟨(some 11), .un .not (.tmp 10), none, false⟩])
 (.cond (.tmp 11)
 (.seq (.region false [⟨(some 4), .move (.const (.slice none 0 0)), none, false⟩])
 (.ret))
 (.skip)))
 (.seq (.region false [⟨(some 5), .move (.const (.slice none 0 0)), none, false⟩])
 (.seq (.seq (.region false [⟨(some 12), .faddr 5 1 false (.tmp 2), none, false⟩,
 ⟨(some 13), .load 1 false (.tmp 12), none, false⟩,
 ⟨(some 14), .move (.tmp 1), none, false⟩,
 ⟨(some 15), .iaddr 6 (.tmp 13) (.tmp 14), none, false⟩,
 ⟨(some 16), .faddr 1 1 false (.tmp 15), none, false⟩,
 ⟨(some 17), .load 1 false (.tmp 16), none, false⟩,
 ⟨(some 18), .bi .len [52].toArray 3 [(.tmp 17)], none, false⟩,
 ⟨(some 19), .move (.const (.int .i64 0)), none, false⟩])
 (.block 0 (.loop ac21_L1)))
 (.seq (.region false [⟨(some 31), .move (.tmp 5), none, false⟩,
 ⟨(some 4), .move (.tmp 31), none, false⟩])
 (.ret)))))
theorem text21 : FnText Try.prog 21 [7] 32 2 ac21 [(4, none)] :=
 ⟨Try.call21, follows, Try.f21, _, Try.func21, rfl, rfl, by decide, by kernel_rfl, by kernel_rfl⟩


/-- patchbay/bitvec.PrefixMask -/
def ac93 : AC :=
 .seq (.region false [⟨(some 4), .move (.const (.int .u32 0)), none, false⟩])
 (.seq (.seq (.region false [⟨(some 5), .move (.tmp 1), none, false⟩,
 ⟨(some 6), .bslice false 3 1 false [(.tmp 5)], none, false⟩,
 ⟨(some 7), .call (.func 80) [(.tmp 6)], none, false⟩,
 ⟨(some 8), .un .not (.tmp 7), none, false⟩])
 (.cond (.tmp 8)
 (.seq (.region false [⟨(some 4), .move (.const (.int .u32 0)), none, false⟩])
 (.ret))
 (.skip)))
 (.seq (.region false [⟨(some 9), .move (.tmp 1), none, false⟩,
 ⟨(some 10), .call (.func 58) [(.tmp 9)], none, false⟩,
 ⟨(some 11), .move (.tmp 1), none, false⟩,
 ⟨(some 12), .call (.func 58) [(.tmp 11)], none, false⟩,
 ⟨(some 13), .move (.tmp 0), none, false⟩,
 ⟨(some 14), .bi .max [3, 3].toArray 3 [(.tmp 13), (.const (.int .i64 0))], none, false⟩,
 ⟨(some 15), .move (.tmp 1), none, false⟩,
 ⟨(some 16), .bi .min [3, 3].toArray 3 [(.tmp 14), (.tmp 15)], none, false⟩,
 ⟨(some 17), .bin .shr 57 (.tmp 12) (.tmp 16), none, false⟩,
 ⟨(some 18), .bin .andNot 57 (.tmp 10) (.tmp 17), none, false⟩,
 ⟨(some 4), .move (.tmp 18), none, false⟩])
 (.ret)))
theorem text93 : FnText Try.prog 93 [] 19 2 ac93 [(4, none)] :=
 ⟨Try.call93, follows, Try.f93, _, Try.func93, rfl, rfl, by decide, by kernel_rfl, by kernel_rfl⟩

def ac84_L1 : AC :=
 .seq (.region false [⟨(some 14), .bin .lss 3 (.tmp 13) (.tmp 12), none, false⟩])
 (.seq (.cond (.tmp 14)
 (.skip)
 (.exit 0))
 (.seq (.block 1 (.seq (.region false [⟨(some 15), .move (.tmp 13), none, false⟩,
 ⟨(some 6), .move (.tmp 15), none, false⟩])
 (.seq (.region false [⟨(some 16), .move (.tmp 6), none, false⟩,
 ⟨(some 17), .move (.tmp 1), none, false⟩,
 ⟨(some 18), .call (.func 93) [(.tmp 16), (.tmp 17)], none, false⟩,
 ⟨(some 19), .move (.tmp 0), none, false⟩,
 ⟨(some 20), .bin .eql 57 (.tmp 18) (.tmp 19), none, false⟩])
 (.cond (.tmp 20)
 (.seq (.region false [⟨(some 21), .move (.tmp 6), none, false⟩,
 ⟨(some 4), .move (.tmp 21), none, false⟩,
 ⟨(some 5), .move (.const (.bool true)), none, false⟩])
 (.ret))
 (.skip)))))
 (.region false [⟨(some 22), .bin .add 3 (.tmp 13) (.const (.int .i64 1)), none, false⟩,
 ⟨(some 13), .move (.tmp 22), none, false⟩])))
/-- patchbay/bitvec.PrefixLen -/
def ac84 : AC :=
 .seq (.region false [⟨(some 4), .move (.const (.int .i64 0)), none, false⟩,
 ⟨(some 5), .move (.const (.bool false)), none, false⟩])
 (.seq (.seq (.region false [⟨(some 7), .move (.tmp 1), none, false⟩,
 ⟨(some 8), .bslice false 3 1 false [(.tmp 7)], none, false⟩,
 ⟨(some 9), .call (.func 80) [(.tmp 8)], none, false⟩,
 ⟨(some 10), .un .not (.tmp 9), none, false⟩])
 (.cond (.tmp 10)
 (.seq (.region false [⟨(some 4), .move (.const (.int .i64 0)), none, false⟩,
 ⟨(some 5), .move (.const (.bool false)), none, false⟩])
 (.ret))
 (.skip)))
 (.seq (.seq (.region false [⟨(some 11), .move (.tmp 1), none, false⟩,
 ⟨(some 12), .bin .add 3 (.tmp 11) (.const (.int .i64 1)), none, false⟩,
 ⟨(some 13), .move (.const (.int .i64 0)), none, false⟩])
 (.block 0 (.loop ac84_L1)))
 (.seq (.region false [⟨(some 4), .move (.const (.int .i64 0)), none, false⟩,
 ⟨(some 5), .move (.const (.bool false)), none, false⟩])
 (.ret))))
theorem text84 : FnText Try.prog 84 [] 23 2 ac84 [(4, none), (5, none)] :=
 ⟨Try.call84, follows, Try.f84, _, Try.func84, rfl, rfl, by decide, by kernel_rfl, by kernel_rfl⟩

def ac63_G1 : List AOper :=
 [⟨(some 16), .faddr 1 1 false (.tmp 3), (some (15, false)), false⟩,
 ⟨(some 17), .load 1 false (.tmp 16), (some (15, false)), false⟩,
 ⟨(some 18), .move (.tmp 2), (some (15, false)), false⟩,
 ⟨(some 19), .call (.func 83) [(.tmp 17), (.tmp 18)], (some (15, false)), false⟩,
 ⟨(some 20), .un .not (.tmp 19), (some (15, false)), false⟩,
 ⟨(some 21), .pick (.tmp 15) (.const (.bool true)) (.tmp 20), none, false⟩]
def ac63_G2 : List AOper :=
 [⟨(some 33), .faddr 1 1 false (.tmp 3), (some (32, true)), false⟩,
 ⟨(some 34), .load 1 false (.tmp 33), (some (32, true)), false⟩,
 ⟨(some 35), .move (.tmp 2), (some (32, true)), false⟩,
 ⟨(some 36), .call (.func 58) [(.tmp 35)], (some (32, true)), false⟩,
 ⟨(some 37), .bin .neq 57 (.tmp 34) (.tmp 36), (some (32, true)), false⟩,
 ⟨(some 38), .pick (.tmp 32) (.tmp 37) (.const (.bool false)), none, false⟩]
/-- patchbay/entry.checkKey -/
def ac63 : AC :=
 .seq (.region false [⟨(some 3), .box false 85 (.tmp 0), none, false⟩,
 ⟨(some 6), .move (.const (.int .i64 0)), none, false⟩])
 (.seq (.block 0 (.seq (.region false (⟨(some 10), .faddr 0 1 false (.tmp 3), none, false⟩ :: ⟨(some 11), .load 1 false (.tmp 10), none, false⟩ :: ⟨(some 12), .move (.tmp 2), none, false⟩ :: ⟨(some 13), .call (.func 83) [(.tmp 11), (.tmp 12)], none, false⟩ :: ⟨(some 14), .un .not (.tmp 13), none, false⟩ :: ⟨(some 15), .move (.tmp 14), none, false⟩ :: (ac63_G1 ++ [⟨(some 9), .move (.tmp 21), none, false⟩])))
 (.cond (.tmp 9)
 (.seq (.region false [⟨(some 6), .move (.const (.int .i64 9)), none, false⟩])
 (.ret))
 (.seq (.region false [⟨(some 23), .faddr 0 1 false (.tmp 3), none, false⟩,
 ⟨(some 24), .load 1 false (.tmp 23), none, false⟩,
 ⟨(some 25), .faddr 1 1 false (.tmp 3), none, false⟩,
 ⟨(some 26), .load 1 false (.tmp 25), none, false⟩,
 ⟨(some 27), .bin .andNot 57 (.tmp 24) (.tmp 26), none, false⟩,
 ⟨(some 28), .bin .neq 57 (.tmp 27) (.const (.int .u32 0)), none, false⟩,
 ⟨(some 22), .move (.tmp 28), none, false⟩])
 (.cond (.tmp 22)
 (.seq (.region false [⟨(some 6), .move (.const (.int .i64 5)), none, false⟩])
 (.ret))
 (.seq (.region true (⟨(some 30), .move (.tmp 1), none, false⟩ :: ⟨(some 31), .bin .eql 3 (.tmp 30) (.const (.int .i64 1)), none, false⟩ :: ⟨(some 32), .move (.tmp 31), none, false⟩ :: (ac63_G2 ++ [⟨(some 29), .move (.tmp 38), none, false⟩])))
 (.cond (.tmp 29)
 (.seq (.region false [⟨(some 6), .move (.const (.int .i64 11)), none, false⟩])
 (.ret))
 (.skip))))))))
 (.seq (.seq (.region false [⟨(some 39), .move (.tmp 1), none, false⟩,
 ⟨(some 40), .bin .eql 3 (.tmp 39) (.const (.int .i64 2)), none, false⟩])
 (.cond (.tmp 40)
 (.seq (.region false [⟨(some 42), .faddr 1 1 false (.tmp 3), none, false⟩,
 ⟨(some 43), .load 1 false (.tmp 42), none, false⟩,
 ⟨(some 44), .move (.tmp 2), none, false⟩,
 ⟨(some 45), .call (.func 84) [(.tmp 43), (.tmp 44)], none, false⟩,
 ⟨(some 41), .move (.tmp 45), none, false⟩,
 ⟨(some 46), .extract (.tmp 41) 0, none, false⟩,
 ⟨(some 47), .extract (.tmp 41) 1, none, false⟩,
 ⟨(some 7), .move (.tmp 46), none, false⟩,
 ⟨(some 8), .move (.tmp 47), none, false⟩])
 (.seq (.region false [⟨(some 48), .move (.tmp 8), none, false⟩,
 ⟨(some 49), .un .not (.tmp 48), none, false⟩])
 (.cond (.tmp 49)
 (.seq (.region false [⟨(some 6), .move (.const (.int .i64 11)), none, false⟩])
 (.ret))
 (.skip))))
 (.skip)))
 (.seq (.region false [⟨(some 6), .move (.const (.int .i64 0)), none, false⟩])
 (.ret))))
theorem text63 : FnText Try.prog 63 [] 50 3 ac63 [(6, none)] :=
 ⟨Try.call63, follows, Try.f63, _, Try.func63, rfl, rfl, by decide, by kernel_rfl, by kernel_rfl⟩

def ac18_L1 : AC :=
 .seq (.region false [⟨(some 20), .bin .lss 3 (.tmp 19) (.tmp 18), none, false⟩])
 (.seq (.cond (.tmp 20)
 (.skip)
 (.exit 0))
 (.seq (.block 1 (.seq (.region false [⟨(some 21), .iaddr 3 (.tmp 17) (.tmp 19), none, false⟩,
 ⟨(some 22), .load 3 true (.tmp 21), none, false⟩,
 ⟨(some 7), .alloc true 62 (.agg [(.int .i64 0), (.int .i64 0), (.int .i64 0)].toArray), none, false⟩,
 ⟨none, .store 3 (.tmp 7) (.tmp 22), none, false⟩])
 (.block 2 (.seq (.region false [⟨(some 24), .faddr 2 1 false (.tmp 7), none, false⟩,
 ⟨(some 25), .load 1 false (.tmp 24), none, false⟩,
 ⟨(some 26), .bin .eql 3 (.tmp 25) (.const (.int .i64 3)), none, false⟩,
 ⟨(some 23), .move (.tmp 26), none, false⟩])
 (.cond (.tmp 23)
 (.seq (.region false [⟨(some 4), .move (.const (.int .i64 3)), none, false⟩])
 (.ret))
 (.seq (.region false [⟨(some 28), .faddr 2 1 false (.tmp 7), none, false⟩,
 ⟨(some 29), .load 1 false (.tmp 28), none, false⟩,
 ⟨(some 30), .bin .eql 3 (.tmp 29) (.const (.int .i64 2)), none, false⟩,
 ⟨(some 27), .move (.tmp 30), none, false⟩])
 (.cond (.tmp 27)
 (.region false [⟨(some 5), .move (.const (.int .i64 2)), none, false⟩])
 (.skip))))))))
 (.region false [⟨(some 31), .bin .add 3 (.tmp 19) (.const (.int .i64 1)), none, false⟩,
 ⟨(some 19), .move (.tmp 31), none, false⟩])))
/-- patchbay/table.Kind -/
def ac18 : AC :=
 .seq (.region false [⟨(some 2), .box false 31 (.tmp 0), none, false⟩,
 ⟨(some 4), .move (.const (.int .i64 0)), none, false⟩])
 (.seq (.seq (.region false [⟨(some 8), .load 9 true (.tmp 2), none, false⟩,
 ⟨(some 9), .move (.tmp 1), none, false⟩,
 ⟨(some 10), .call (.func 52) [(.tmp 8), (.tmp 9)], none, false⟩,
 ⟨(some 11), .un .not (.tmp 10), none, false⟩])
 (.cond (.tmp 11)
 (.seq (.region false [⟨(some 4), .move (.const (.int .i64 0)), none, false⟩])
 (.ret))
 (.skip)))
 (.seq (.region false [⟨(some 5), .move (.const (.int .i64 1)), none, false⟩])
 (.seq (.seq (.region false [⟨(some 12), .faddr 5 1 false (.tmp 2), none, false⟩,
 ⟨(some 13), .load 1 false (.tmp 12), none, false⟩,
 ⟨(some 14), .move (.tmp 1), none, false⟩,
 ⟨(some 15), .iaddr 6 (.tmp 13) (.tmp 14), none, false⟩,
 ⟨(some 16), .faddr 1 1 false (.tmp 15), none, false⟩,
 ⟨(some 17), .load 1 false (.tmp 16), none, false⟩,
 ⟨(some 18), .bi .len [52].toArray 3 [(.tmp 17)], none, false⟩,
 ⟨(some 19), .move (.const (.int .i64 0)), none, false⟩])
 (.block 0 (.loop ac18_L1)))
 (.seq (.region false [⟨(some 32), .move (.tmp 5), none, false⟩,
 ⟨(some 4), .move (.tmp 32), none, false⟩])
 (.ret)))))
theorem text18 : FnText Try.prog 18 [7] 33 2 ac18 [(4, none)] :=
 ⟨Try.call18, follows, Try.f18, _, Try.func18, rfl, rfl, by decide, by kernel_rfl, by kernel_rfl⟩

def ac25_L1 : AC :=
 .seq (.region false [⟨(some 21), .bin .lss 3 (.tmp 20) (.tmp 19), none, false⟩])
 (.seq (.cond (.tmp 21)
 (.skip)
 (.exit 0))
 (.seq (.block 1 (.seq (.region false [⟨(some 22), .iaddr 1 (.tmp 18) (.tmp 20), none, false⟩,
 ⟨(some 23), .load 1 false (.tmp 22), none, false⟩,
 ⟨(some 8), .move (.tmp 23), none, false⟩])
 (.seq (.region false [⟨(some 24), .move (.tmp 8), none, false⟩,
 ⟨(some 25), .move (.tmp 2), none, false⟩,
 ⟨(some 26), .bin .eql 3 (.tmp 24) (.tmp 25), none, false⟩])
 (.cond (.tmp 26)
 (.seq (.region false [⟨(some 6), .move (.const (.bool true)), none, false⟩])
 (.ret))
 (.skip)))))
 (.region false [⟨(some 27), .bin .add 3 (.tmp 20) (.const (.int .i64 1)), none, false⟩,
 ⟨(some 20), .move (.tmp 27), none, false⟩])))
/-- patchbay/table.Allows -/
def ac25 : AC :=
 .seq (.region false [⟨(some 3), .box false 31 (.tmp 0), none, false⟩,
 ⟨(some 6), .move (.const (.bool false)), none, false⟩])
 (.seq (.seq (.region false [⟨(some 9), .load 9 true (.tmp 3), none, false⟩,
 ⟨(some 10), .move (.tmp 1), none, false⟩,
 ⟨(some 11), .call (.func 52) [(.tmp 9), (.tmp 10)], none, false⟩,
 ⟨(some 12), .un .not (.tmp 11), none, false⟩])
 (.cond (.tmp 12)
 (.seq (.region false [⟨(some 6), .move (.const (.bool false)), none, false⟩])
 (.ret))
 (.skip)))
 (.seq (.seq (.region false [⟨(some 13), .faddr 5 1 false (.tmp 3), none, false⟩,
 ⟨(some 14), .load 1 false (.tmp 13), none, false⟩,
 ⟨(some 15), .move (.tmp 1), none, false⟩,
 ⟨(some 16), .iaddr 6 (.tmp 14) (.tmp 15), none, false⟩,
 ⟨(some 17), .faddr 2 1 false (.tmp 16), none, false⟩,
 ⟨(some 18), .load 1 false (.tmp 17), none, false⟩,
 ⟨(some 19), .bi .len [29].toArray 3 [(.tmp 18)], none, false⟩,
 ⟨(some 20), .move (.const (.int .i64 0)), none, false⟩])
 (.block 0 (.loop ac25_L1)))
 (.seq (.region false [⟨(some 6), .move (.const (.bool false)), none, false⟩])
 (.ret))))
theorem text25 : FnText Try.prog 25 [] 28 3 ac25 [(6, none)] :=
 ⟨Try.call25, follows, Try.f25, _, Try.func25, rfl, rfl, by decide, by kernel_rfl, by kernel_rfl⟩

def ac34_L1 : AC :=
 .seq (.region false [⟨(some 42), .bin .lss 3 (.tmp 41) (.tmp 40), none, false⟩])
 (.seq (.cond (.tmp 42)
 (.skip)
 (.exit 0))
 (.seq (.block 1 (.seq (.region false [⟨(some 43), .move (.tmp 41), none, false⟩,
 ⟨(some 44), .iaddr 2 (.tmp 39) (.tmp 41), none, false⟩,
 ⟨(some 45), .load 2 true (.tmp 44), none, false⟩,
 ⟨(some 12), .alloc true 85 (.agg [(.int .u32 0), (.int .u32 0)].toArray), none, false⟩,
 ⟨(some 11), .move (.tmp 43), none, false⟩,
 ⟨none, .store 2 (.tmp 12) (.tmp 45), none, false⟩])
 (.seq (.region true [⟨(some 46), .load 2 true (.tmp 12), none, false⟩,
 ⟨(some 47), .move (.tmp 9), none, false⟩,
 ⟨(some 48), .move (.tmp 11), none, false⟩,
 ⟨(some 49), .iaddr 3 (.tmp 47) (.tmp 48), none, false⟩,
 ⟨(some 50), .faddr 2 1 false (.tmp 49), none, false⟩,
 ⟨(some 51), .load 1 false (.tmp 50), none, false⟩,
 ⟨(some 52), .move (.tmp 10), none, false⟩,
 ⟨(some 53), .move (.tmp 11), none, false⟩,
 ⟨(some 54), .iaddr 1 (.tmp 52) (.tmp 53), none, false⟩,
 ⟨(some 55), .load 1 false (.tmp 54), none, false⟩,
 ⟨(some 56), .call (.func 63) [(.tmp 46), (.tmp 51), (.tmp 55)], none, false⟩,
 ⟨(some 13), .move (.tmp 56), none, false⟩])
 (.seq (.region false [⟨(some 57), .move (.tmp 13), none, false⟩,
 ⟨(some 58), .bin .neq 34 (.tmp 57) (.const (.int .i64 0)), none, false⟩])
 (.cond (.tmp 58)
 (.seq (.region false [⟨(some 59), .move (.tmp 13), none, false⟩,
 ⟨(some 6), .move (.tmp 59), none, false⟩])
 (.ret))
 (.skip))))))
 (.region false [⟨(some 60), .bin .add 3 (.tmp 41) (.const (.int .i64 1)), none, false⟩,
 ⟨(some 41), .move (.tmp 60), none, false⟩])))
def ac34_G1 : List AOper :=
 [⟨(some 66), .faddr 1 1 false (.tmp 5), (some (65, false)), false⟩,
 ⟨(some 67), .load 1 false (.tmp 66), (some (65, false)), false⟩,
 ⟨(some 68), .bin .gtr 3 (.tmp 67) (.const (.int .i64 255)), (some (65, false)), false⟩,
 ⟨(some 69), .pick (.tmp 65) (.const (.bool true)) (.tmp 68), none, false⟩]
def ac34_G2 : List AOper :=
 [⟨(some 75), .load 9 true (.tmp 3), (some (74, true)), false⟩,
 ⟨(some 76), .move (.tmp 1), (some (74, true)), false⟩,
 ⟨(some 77), .call (.func 18) [(.tmp 75), (.tmp 76)], (some (74, true)), false⟩,
 ⟨(some 78), .bin .neq 3 (.tmp 77) (.const (.int .i64 3)), (some (74, true)), false⟩,
 ⟨(some 79), .pick (.tmp 74) (.tmp 78) (.const (.bool false)), none, false⟩]
/-- patchbay/entry.Check -/
def ac34 : AC :=
 .seq (.region false [⟨(some 3), .box false 31 (.tmp 0), none, false⟩,
 ⟨(some 5), .box false 69 (.tmp 2), none, false⟩,
 ⟨(some 6), .move (.const (.int .i64 0)), none, false⟩])
 (.seq (.seq (.region false [⟨(some 15), .load 9 true (.tmp 3), none, false⟩,
 ⟨(some 16), .move (.tmp 1), none, false⟩,
 ⟨(some 17), .call (.func 16) [(.tmp 15), (.tmp 16)], none, false⟩,
 ⟨(some 14), .move (.tmp 17), none, false⟩,
 ⟨(some 18), .extract (.tmp 14) 0, none, false⟩,
 ⟨(some 19), .extract (.tmp 14) 1, none, false⟩,
 ⟨(some 7), .move (.tmp 18), none, false⟩,
 ⟨(some 8), .move (.tmp 19), none, false⟩])
 (.seq (.region false [⟨(some 20), .move (.tmp 8), none, false⟩,
 ⟨(some 21), .bin .neq 34 (.tmp 20) (.const (.int .i64 0)), none, false⟩])
 (.cond (.tmp 21)
 (.seq (.region false [⟨(some 22), .move (.tmp 8), none, false⟩,
 ⟨(some 6), .move (.tmp 22), none, false⟩])
 (.ret))
 (.skip))))
 (.seq (.region true [⟨(some 23), .faddr 5 1 false (.tmp 3), none, false⟩,
 ⟨(some 24), .load 1 false (.tmp 23), none, false⟩,
 ⟨(some 25), .move (.tmp 1), none, false⟩,
 ⟨(some 26), .iaddr 6 (.tmp 24) (.tmp 25), none, false⟩,
 ⟨(some 27), .faddr 1 1 false (.tmp 26), none, false⟩,
 ⟨(some 28), .load 1 false (.tmp 27), none, false⟩,
 ⟨(some 29), .load 9 true (.tmp 3), none, false⟩,
 ⟨(some 30), .move (.tmp 1), none, false⟩,
 ⟨(some 31), .call (.func 21) [(.tmp 29), (.tmp 30)], none, false⟩,
 ⟨(some 9), .move (.tmp 28), none, false⟩,
 ⟨(some 10), .move (.tmp 31), none, false⟩])
 (.seq (.seq (.region false [⟨(some 32), .faddr 0 1 false (.tmp 5), none, false⟩,
 ⟨(some 33), .load 1 false (.tmp 32), none, false⟩,
 ⟨(some 34), .bi .len [67].toArray 3 [(.tmp 33)], none, false⟩,
 ⟨(some 35), .move (.tmp 9), none, false⟩,
 ⟨(some 36), .bi .len [52].toArray 3 [(.tmp 35)], none, false⟩,
 ⟨(some 37), .bin .neq 3 (.tmp 34) (.tmp 36), none, false⟩])
 (.cond (.tmp 37)
 (.seq (.region false [⟨(some 6), .move (.const (.int .i64 2)), none, false⟩])
 (.ret))
 (.skip)))
 (.seq (.seq (.region false [⟨(some 38), .faddr 0 1 false (.tmp 5), none, false⟩,
 ⟨(some 39), .load 1 false (.tmp 38), none, false⟩,
 ⟨(some 40), .bi .len [67].toArray 3 [(.tmp 39)], none, false⟩,
 ⟨(some 41), .move (.const (.int .i64 0)), none, false⟩])
 (.block 0 (.loop ac34_L1)))
 (.seq (.block 2 (.seq (.region false (⟨(some 62), .faddr 1 1 false (.tmp 5), none, false⟩ :: ⟨(some 63), .load 1 false (.tmp 62), none, false⟩ :: ⟨(some 64), .bin .lss 3 (.tmp 63) (.const (.int .i64 0)), none, false⟩ :: ⟨(some 65), .move (.tmp 64), none, false⟩ :: (ac34_G1 ++ [⟨(some 61), .move (.tmp 69), none, false⟩])))
 (.cond (.tmp 61)
 (.seq (.region false [⟨(some 6), .move (.const (.int .i64 9)), none, false⟩])
 (.ret))
 (.seq (.region false (⟨(some 71), .faddr 1 1 false (.tmp 5), none, false⟩ :: ⟨(some 72), .load 1 false (.tmp 71), none, false⟩ :: ⟨(some 73), .bin .neq 3 (.tmp 72) (.const (.int .i64 0)), none, false⟩ :: ⟨(some 74), .move (.tmp 73), none, false⟩ :: (ac34_G2 ++ [⟨(some 70), .move (.tmp 79), none, false⟩])))
 (.cond (.tmp 70)
 (.seq (.region false [⟨(some 6), .move (.const (.int .i64 11)), none, false⟩])
 (.ret))
 (.seq (.region false [⟨(some 81), .load 9 true (.tmp 3), none, false⟩,
 ⟨(some 82), .move (.tmp 1), none, false⟩,
 ⟨(some 83), .faddr 2 2 true (.tmp 5), none, false⟩,
 ⟨(some 84), .faddr 0 1 false (.tmp 83), none, false⟩,
 ⟨(some 85), .load 1 false (.tmp 84), none, false⟩,
 ⟨(some 86), .call (.func 25) [(.tmp 81), (.tmp 82), (.tmp 85)], none, false⟩,
 ⟨(some 87), .un .not (.tmp 86), none, false⟩,
 ⟨(some 80), .move (.tmp 87), none, false⟩])
 (.cond (.tmp 80)
 (.seq (.region false [⟨(some 6), .move (.const (.int .i64 8)), none, false⟩])
 (.ret))
 (.skip))))))))
 (.seq (.region false [⟨(some 88), .load 9 true (.tmp 3), none, false⟩,
 ⟨(some 89), .faddr 2 2 true (.tmp 5), none, false⟩,
 ⟨(some 90), .load 2 true (.tmp 89), none, false⟩,
 ⟨(some 91), .call (.func 64) [(.tmp 88), (.tmp 90)], none, false⟩,
 ⟨(some 6), .move (.tmp 91), none, false⟩])
 (.ret)))))))
theorem text34 : FnText Try.prog 34 [12] 92 3 ac34 [(6, none)] :=
 ⟨Try.call34, follows, Try.f34, _, Try.func34, rfl, rfl, by decide, by kernel_rfl, by kernel_rfl⟩

def ac36_L1 : AC :=
 .seq (.region false [⟨(some 17), .bin .lss 3 (.tmp 16) (.tmp 15), none, false⟩])
 (.seq (.cond (.tmp 17)
 (.skip)
 (.exit 0))
 (.seq (.block 1 (.seq (.region false [⟨(some 18), .move (.tmp 16), none, false⟩,
 ⟨(some 19), .iaddr 2 (.tmp 14) (.tmp 16), none, false⟩,
 ⟨(some 20), .load 2 true (.tmp 19), none, false⟩,
 ⟨(some 6), .alloc true 85 (.agg [(.int .u32 0), (.int .u32 0)].toArray), none, false⟩,
 ⟨(some 5), .move (.tmp 18), none, false⟩,
 ⟨none, .store 2 (.tmp 6) (.tmp 20), none, false⟩])
 (.seq (.region true [⟨(some 21), .move (.tmp 1), none, false⟩,
 ⟨(some 22), .move (.tmp 5), none, false⟩,
 ⟨(some 23), .iaddr 1 (.tmp 21) (.tmp 22), none, false⟩,
 ⟨(some 24), .load 1 false (.tmp 23), none, false⟩,
 ⟨(some 25), .faddr 0 1 false (.tmp 6), none, false⟩,
 ⟨(some 26), .load 1 false (.tmp 25), none, false⟩,
 ⟨(some 27), .bin .xor 57 (.tmp 24) (.tmp 26), none, false⟩,
 ⟨(some 28), .faddr 1 1 false (.tmp 6), none, false⟩,
 ⟨(some 29), .load 1 false (.tmp 28), none, false⟩,
 ⟨(some 30), .bin .and 57 (.tmp 27) (.tmp 29), none, false⟩,
 ⟨(some 31), .bin .neq 57 (.tmp 30) (.const (.int .u32 0)), none, false⟩])
 (.cond (.tmp 31)
 (.seq (.region false [⟨(some 4), .move (.const (.bool false)), none, false⟩])
 (.ret))
 (.skip)))))
 (.region false [⟨(some 32), .bin .add 3 (.tmp 16) (.const (.int .i64 1)), none, false⟩,
 ⟨(some 16), .move (.tmp 32), none, false⟩])))
/-- patchbay/entry.Matches -/
def ac36 : AC :=
 .seq (.region false [⟨(some 2), .box false 69 (.tmp 0), none, false⟩,
 ⟨(some 4), .move (.const (.bool false)), none, false⟩])
 (.seq (.seq (.region false [⟨(some 7), .move (.tmp 1), none, false⟩,
 ⟨(some 8), .bi .len [44].toArray 3 [(.tmp 7)], none, false⟩,
 ⟨(some 9), .faddr 0 1 false (.tmp 2), none, false⟩,
 ⟨(some 10), .load 1 false (.tmp 9), none, false⟩,
 ⟨(some 11), .bi .len [67].toArray 3 [(.tmp 10)], none, false⟩,
 ⟨(some 12), .bin .neq 3 (.tmp 8) (.tmp 11), none, false⟩])
 (.cond (.tmp 12)
 (.seq (.region false [⟨(some 4), .move (.const (.bool false)), none, false⟩])
 (.ret))
 (.skip)))
 (.seq (.seq (.region false [⟨(some 13), .faddr 0 1 false (.tmp 2), none, false⟩,
 ⟨(some 14), .load 1 false (.tmp 13), none, false⟩,
 ⟨(some 15), .bi .len [67].toArray 3 [(.tmp 14)], none, false⟩,
 ⟨(some 16), .move (.const (.int .i64 0)), none, false⟩])
 (.block 0 (.loop ac36_L1)))
 (.seq (.region false [⟨(some 4), .move (.const (.bool true)), none, false⟩])
 (.ret))))
theorem text36 : FnText Try.prog 36 [6] 33 2 ac36 [(4, none)] :=
 ⟨Try.call36, follows, Try.f36, _, Try.func36, rfl, rfl, by decide, by kernel_rfl, by kernel_rfl⟩

def ac87_L1 : AC :=
 .seq (.region false [⟨(some 6), .bin .lss 3 (.tmp 5) (.const (.int .i64 32)), none, false⟩])
 (.seq (.cond (.tmp 6)
 (.skip)
 (.exit 0))
 (.seq (.block 1 (.seq (.region false [⟨(some 7), .move (.tmp 5), none, false⟩,
 ⟨(some 4), .move (.tmp 7), none, false⟩])
 (.region false [⟨(some 8), .move (.tmp 3), none, false⟩,
 ⟨(some 9), .move (.tmp 0), none, false⟩,
 ⟨(some 10), .move (.tmp 4), none, false⟩,
 ⟨(some 11), .bin .shr 57 (.tmp 9) (.tmp 10), none, false⟩,
 ⟨(some 12), .bin .and 57 (.tmp 11) (.const (.int .u32 1)), none, false⟩,
 ⟨(some 13), .conv 57 3 (.tmp 12), none, false⟩,
 ⟨(some 14), .bin .add 3 (.tmp 8) (.tmp 13), none, false⟩,
 ⟨(some 3), .move (.tmp 14), none, false⟩])))
 (.region false [⟨(some 15), .bin .add 3 (.tmp 5) (.const (.int .i64 1)), none, false⟩,
 ⟨(some 5), .move (.tmp 15), none, false⟩])))
/-- patchbay/bitvec.OnesCount -/
def ac87 : AC :=
 .seq (.region false [⟨(some 2), .move (.const (.int .i64 0)), none, false⟩])
 (.seq (.region false [⟨(some 3), .move (.const (.int .i64 0)), none, false⟩])
 (.seq (.seq (.region false [⟨(some 5), .move (.const (.int .i64 0)), none, false⟩])
 (.block 0 (.loop ac87_L1)))
 (.seq (.region false [⟨(some 16), .move (.tmp 3), none, false⟩,
 ⟨(some 2), .move (.tmp 16), none, false⟩])
 (.ret))))
theorem text87 : FnText Try.prog 87 [] 17 1 ac87 [(2, none)] :=
 ⟨Try.call87, follows, Try.f87, _, Try.func87, rfl, rfl, by decide, by kernel_rfl, by kernel_rfl⟩

def ac67_G1 : List AOper :=
 [⟨(some 12), .move (.tmp 1), (some (11, false)), false⟩,
 ⟨(some 13), .faddr 5 1 false (.tmp 3), (some (11, false)), false⟩,
 ⟨(some 14), .load 1 false (.tmp 13), (some (11, false)), false⟩,
 ⟨(some 15), .bi .len [26].toArray 3 [(.tmp 14)], (some (11, false)), false⟩,
 ⟨(some 16), .bin .geq 3 (.tmp 12) (.tmp 15), (some (11, false)), false⟩,
 ⟨(some 17), .pick (.tmp 11) (.const (.bool true)) (.tmp 16), none, false⟩]
def ac67_L1 : AC :=
 .seq (.region false [⟨(some 26), .bin .lss 3 (.tmp 25) (.tmp 24), none, false⟩])
 (.seq (.cond (.tmp 26)
 (.skip)
 (.exit 0))
 (.seq (.block 1 (.seq (.region false [⟨(some 27), .move (.tmp 25), none, false⟩,
 ⟨(some 28), .iaddr 3 (.tmp 23) (.tmp 25), none, false⟩,
 ⟨(some 29), .load 3 true (.tmp 28), none, false⟩,
 ⟨(some 8), .alloc true 62 (.agg [(.int .i64 0), (.int .i64 0), (.int .i64 0)].toArray), none, false⟩,
 ⟨(some 7), .move (.tmp 27), none, false⟩,
 ⟨none, .store 3 (.tmp 8) (.tmp 29), none, false⟩])
 (.seq (.region false [⟨(some 30), .faddr 2 1 false (.tmp 8), none, false⟩,
 ⟨(some 31), .load 1 false (.tmp 30), none, false⟩,
 ⟨(some 32), .bin .eql 3 (.tmp 31) (.const (.int .i64 2)), none, false⟩])
 (.cond (.tmp 32)
 (.seq (.seq (.region false [⟨(some 33), .move (.tmp 7), none, false⟩,
 ⟨(some 34), .faddr 0 1 false (.tmp 5), none, false⟩,
 ⟨(some 35), .load 1 false (.tmp 34), none, false⟩,
 ⟨(some 36), .bi .len [67].toArray 3 [(.tmp 35)], none, false⟩,
 ⟨(some 37), .bin .lss 3 (.tmp 33) (.tmp 36), none, false⟩])
 (.cond (.tmp 37)
 (.seq (.region false [⟨(some 38), .faddr 0 1 false (.tmp 5), none, false⟩,
 ⟨(some 39), .load 1 false (.tmp 38), none, false⟩,
 ⟨(some 40), .move (.tmp 7), none, false⟩,
 ⟨(some 41), .iaddr 2 (.tmp 39) (.tmp 40), none, false⟩,
 ⟨(some 42), .faddr 1 1 false (.tmp 41), none, false⟩,
 ⟨(some 43), .load 1 false (.tmp 42), none, false⟩,
 ⟨(some 44), .call (.func 87) [(.tmp 43)], none, false⟩,
 ⟨(some 6), .move (.tmp 44), none, false⟩])
 (.ret))
 (.skip)))
 (.seq (.region false [⟨(some 6), .move (.const (.int .i64 0)), none, false⟩])
 (.ret)))
 (.skip)))))
 (.region false [⟨(some 45), .bin .add 3 (.tmp 25) (.const (.int .i64 1)), none, false⟩,
 ⟨(some 25), .move (.tmp 45), none, false⟩])))
/-- patchbay/entry.prefix -/
def ac67 : AC :=
 .seq (.region false [⟨(some 3), .box false 31 (.tmp 0), none, false⟩,
 ⟨(some 5), .box false 69 (.tmp 2), none, false⟩,
 ⟨(some 6), .move (.const (.int .i64 0)), none, false⟩])
 (.seq (.seq (.region false (⟨(some 9), .move (.tmp 1), none, false⟩ :: ⟨(some 10), .bin .lss 3 (.tmp 9) (.const (.int .i64 0)), none, false⟩ :: ⟨(some 11), .move (.tmp 10), none, false⟩ :: (ac67_G1 ++ [])))
 (.cond (.tmp 17)
 (.seq (.region false [⟨(some 6), .move (.const (.int .i64 0)), none, false⟩])
 (.ret))
 (.skip)))
 (.seq (.seq (.region false [⟨(some 18), .faddr 5 1 false (.tmp 3), none, false⟩,
 ⟨(some 19), .load 1 false (.tmp 18), none, false⟩,
 ⟨(some 20), .move (.tmp 1), none, false⟩,
 ⟨(some 21), .iaddr 6 (.tmp 19) (.tmp 20), none, false⟩,
 ⟨(some 22), .faddr 1 1 false (.tmp 21), none, false⟩,
 ⟨(some 23), .load 1 false (.tmp 22), none, false⟩,
 ⟨(some 24), .bi .len [52].toArray 3 [(.tmp 23)], none, false⟩,
 ⟨(some 25), .move (.const (.int .i64 0)), none, false⟩])
 (.block 0 (.loop ac67_L1)))
 (.seq (.region false [⟨(some 6), .move (.const (.int .i64 0)), none, false⟩])
 (.ret))))
theorem text67 : FnText Try.prog 67 [8] 46 3 ac67 [(6, none)] :=
 ⟨Try.call67, follows, Try.f67, _, Try.func67, rfl, rfl, by decide, by kernel_rfl, by kernel_rfl⟩


/-- patchbay/entry.Precedes -/
def ac38 : AC :=
 .seq (.region false [⟨(some 4), .box false 31 (.tmp 0), none, false⟩,
 ⟨(some 6), .box false 75 (.tmp 2), none, false⟩,
 ⟨(some 7), .box false 75 (.tmp 3), none, false⟩,
 ⟨(some 8), .move (.const (.bool false)), none, false⟩])
 (.seq (.seq (.region false [⟨(some 11), .faddr 1 4 true (.tmp 6), none, false⟩,
 ⟨(some 12), .faddr 1 1 false (.tmp 11), none, false⟩,
 ⟨(some 13), .load 1 false (.tmp 12), none, false⟩,
 ⟨(some 14), .faddr 1 4 true (.tmp 7), none, false⟩,
 ⟨(some 15), .faddr 1 1 false (.tmp 14), none, false⟩,
 ⟨(some 16), .load 1 false (.tmp 15), none, false⟩,
 ⟨(some 17), .bin .neq 3 (.tmp 13) (.tmp 16), none, false⟩])
 (.cond (.tmp 17)
 (.seq (.region false [⟨(some 18), .faddr 1 4 true (.tmp 6), none, false⟩,
 ⟨(some 19), .faddr 1 1 false (.tmp 18), none, false⟩,
 ⟨(some 20), .load 1 false (.tmp 19), none, false⟩,
 ⟨(some 21), .faddr 1 4 true (.tmp 7), none, false⟩,
 ⟨(some 22), .faddr 1 1 false (.tmp 21), none, false⟩,
 ⟨(some 23), .load 1 false (.tmp 22), none, false⟩,
 ⟨(some 24), .bin .gtr 3 (.tmp 20) (.tmp 23), none, false⟩,
 ⟨(some 8), .move (.tmp 24), none, false⟩])
 (.ret))
 (.skip)))
 (.seq (.seq (.region true [⟨(some 25), .load 9 true (.tmp 4), none, false⟩,
 ⟨(some 26), .move (.tmp 1), none, false⟩,
 ⟨(some 27), .faddr 1 4 true (.tmp 6), none, false⟩,
 ⟨(some 28), .load 4 true (.tmp 27), none, false⟩,
 ⟨(some 29), .call (.func 67) [(.tmp 25), (.tmp 26), (.tmp 28)], none, false⟩,
 ⟨(some 30), .load 9 true (.tmp 4), none, false⟩,
 ⟨(some 31), .move (.tmp 1), none, false⟩,
 ⟨(some 32), .faddr 1 4 true (.tmp 7), none, false⟩,
 ⟨(some 33), .load 4 true (.tmp 32), none, false⟩,
 ⟨(some 34), .call (.func 67) [(.tmp 30), (.tmp 31), (.tmp 33)], none, false⟩,
 ⟨(some 9), .move (.tmp 29), none, false⟩,
 ⟨(some 10), .move (.tmp 34), none, false⟩])
 (.seq (.region false [⟨(some 35), .move (.tmp 9), none, false⟩,
 ⟨(some 36), .move (.tmp 10), none, false⟩,
 ⟨(some 37), .bin .neq 3 (.tmp 35) (.tmp 36), none, false⟩])
 (.cond (.tmp 37)
 (.seq (.region false [⟨(some 38), .move (.tmp 9), none, false⟩,
 ⟨(some 39), .move (.tmp 10), none, false⟩,
 ⟨(some 40), .bin .gtr 3 (.tmp 38) (.tmp 39), none, false⟩,
 ⟨(some 8), .move (.tmp 40), none, false⟩])
 (.ret))
 (.skip))))
 (.seq (.region false [⟨(some 41), .faddr 0 1 false (.tmp 6), none, false⟩,
 ⟨(some 42), .load 1 false (.tmp 41), none, false⟩,
 ⟨(some 43), .faddr 0 1 false (.tmp 7), none, false⟩,
 ⟨(some 44), .load 1 false (.tmp 43), none, false⟩,
 ⟨(some 45), .bin .lss 3 (.tmp 42) (.tmp 44), none, false⟩,
 ⟨(some 8), .move (.tmp 45), none, false⟩])
 (.ret))))
theorem text38 : FnText Try.prog 38 [] 46 4 ac38 [(8, none)] :=
 ⟨Try.call38, follows, Try.f38, _, Try.func38, rfl, rfl, by decide, by kernel_rfl, by kernel_rfl⟩

def ac40_G1 : List AOper :=
 [⟨(some 13), .faddr 0 1 false (.tmp 2), (some (12, false)), false⟩,
 ⟨(some 14), .load 1 false (.tmp 13), (some (12, false)), false⟩,
 ⟨(some 15), .bi .len [67].toArray 3 [(.tmp 14)], (some (12, false)), false⟩,
 ⟨(some 16), .faddr 0 1 false (.tmp 3), (some (12, false)), false⟩,
 ⟨(some 17), .load 1 false (.tmp 16), (some (12, false)), false⟩,
 ⟨(some 18), .bi .len [67].toArray 3 [(.tmp 17)], (some (12, false)), false⟩,
 ⟨(some 19), .bin .neq 3 (.tmp 15) (.tmp 18), (some (12, false)), false⟩,
 ⟨(some 20), .pick (.tmp 12) (.const (.bool true)) (.tmp 19), none, false⟩]
def ac40_L1 : AC :=
 .seq (.region false [⟨(some 25), .bin .lss 3 (.tmp 24) (.tmp 23), none, false⟩])
 (.seq (.cond (.tmp 25)
 (.skip)
 (.exit 0))
 (.seq (.block 1 (.seq (.region false [⟨(some 26), .move (.tmp 24), none, false⟩,
 ⟨(some 27), .iaddr 2 (.tmp 22) (.tmp 24), none, false⟩,
 ⟨(some 28), .load 2 true (.tmp 27), none, false⟩,
 ⟨(some 6), .alloc true 85 (.agg [(.int .u32 0), (.int .u32 0)].toArray), none, false⟩,
 ⟨(some 5), .move (.tmp 26), none, false⟩,
 ⟨none, .store 2 (.tmp 6) (.tmp 28), none, false⟩])
 (.seq (.region true [⟨(some 29), .load 2 true (.tmp 6), none, false⟩,
 ⟨(some 30), .faddr 0 1 false (.tmp 3), none, false⟩,
 ⟨(some 31), .load 1 false (.tmp 30), none, false⟩,
 ⟨(some 32), .move (.tmp 5), none, false⟩,
 ⟨(some 33), .iaddr 2 (.tmp 31) (.tmp 32), none, false⟩,
 ⟨(some 34), .load 2 true (.tmp 33), none, false⟩,
 ⟨(some 35), .bin .neq 85 (.tmp 29) (.tmp 34), none, false⟩])
 (.cond (.tmp 35)
 (.seq (.region false [⟨(some 4), .move (.const (.bool false)), none, false⟩])
 (.ret))
 (.skip)))))
 (.region false [⟨(some 36), .bin .add 3 (.tmp 24) (.const (.int .i64 1)), none, false⟩,
 ⟨(some 24), .move (.tmp 36), none, false⟩])))
/-- patchbay/entry.SameKey -/
def ac40 : AC :=
 .seq (.region false [⟨(some 2), .box false 69 (.tmp 0), none, false⟩,
 ⟨(some 3), .box false 69 (.tmp 1), none, false⟩,
 ⟨(some 4), .move (.const (.bool false)), none, false⟩])
 (.seq (.seq (.region false (⟨(some 7), .faddr 1 1 false (.tmp 2), none, false⟩ :: ⟨(some 8), .load 1 false (.tmp 7), none, false⟩ :: ⟨(some 9), .faddr 1 1 false (.tmp 3), none, false⟩ :: ⟨(some 10), .load 1 false (.tmp 9), none, false⟩ :: ⟨(some 11), .bin .neq 3 (.tmp 8) (.tmp 10), none, false⟩ :: ⟨(some 12), .move (.tmp 11), none, false⟩ :: (ac40_G1 ++ [])))
 (.cond (.tmp 20)
 (.seq (.region false [⟨(some 4), .move (.const (.bool false)), none, false⟩])
 (.ret))
 (.skip)))
 (.seq (.seq (.region false [⟨(some 21), .faddr 0 1 false (.tmp 2), none, false⟩,
 ⟨(some 22), .load 1 false (.tmp 21), none, false⟩,
 ⟨(some 23), .bi .len [67].toArray 3 [(.tmp 22)], none, false⟩,
 ⟨(some 24), .move (.const (.int .i64 0)), none, false⟩])
 (.block 0 (.loop ac40_L1)))
 (.seq (.region false [⟨(some 4), .move (.const (.bool true)), none, false⟩])
 (.ret))))
theorem text40 : FnText Try.prog 40 [6] 37 2 ac40 [(4, none)] :=
 ⟨Try.call40, follows, Try.f40, _, Try.func40, rfl, rfl, by decide, by kernel_rfl, by kernel_rfl⟩

def ac69_L1 : AC :=
 .seq (.region false [⟨(some 15), .bin .lss 3 (.tmp 14) (.tmp 13), none, false⟩])
 (.seq (.cond (.tmp 15)
 (.skip)
 (.exit 0))
 (.seq (.block 1 (.seq (.region false [⟨(some 16), .move (.tmp 14), none, false⟩,
 ⟨(some 17), .iaddr 1 (.tmp 12) (.tmp 14), none, false⟩,
 ⟨(some 18), .load 1 false (.tmp 17), none, false⟩,
 ⟨(some 5), .move (.tmp 16), none, false⟩,
 ⟨(some 6), .move (.tmp 18), none, false⟩])
 (.seq (.region false [⟨(some 19), .move (.tmp 6), none, false⟩,
 ⟨(some 20), .move (.tmp 1), none, false⟩,
 ⟨(some 21), .move (.tmp 5), none, false⟩,
 ⟨(some 22), .iaddr 1 (.tmp 20) (.tmp 21), none, false⟩,
 ⟨(some 23), .load 1 false (.tmp 22), none, false⟩,
 ⟨(some 24), .bin .neq 57 (.tmp 19) (.tmp 23), none, false⟩])
 (.cond (.tmp 24)
 (.seq (.region false [⟨(some 4), .move (.const (.bool false)), none, false⟩])
 (.ret))
 (.skip)))))
 (.region false [⟨(some 25), .bin .add 3 (.tmp 14) (.const (.int .i64 1)), none, false⟩,
 ⟨(some 14), .move (.tmp 25), none, false⟩])))
/-- patchbay/entry.equal[uint32] -/
def ac69 : AC :=
 .seq (.region false [⟨(some 4), .move (.const (.bool false)), none, false⟩])
 (.seq (.seq (.region false [⟨(some 7), .move (.tmp 0), none, false⟩,
 ⟨(some 8), .bi .len [44].toArray 3 [(.tmp 7)], none, false⟩,
 ⟨(some 9), .move (.tmp 1), none, false⟩,
 ⟨(some 10), .bi .len [44].toArray 3 [(.tmp 9)], none, false⟩,
 ⟨(some 11), .bin .neq 3 (.tmp 8) (.tmp 10), none, false⟩])
 (.cond (.tmp 11)
 (.seq (.region false [⟨(some 4), .move (.const (.bool false)), none, false⟩])
 (.ret))
 (.skip)))
 (.seq (.seq (.region false [⟨(some 12), .move (.tmp 0), none, false⟩,
 ⟨(some 13), .bi .len [44].toArray 3 [(.tmp 12)], none, false⟩,
 ⟨(some 14), .move (.const (.int .i64 0)), none, false⟩])
 (.block 0 (.loop ac69_L1)))
 (.seq (.region false [⟨(some 4), .move (.const (.bool true)), none, false⟩])
 (.ret))))
theorem text69 : FnText Try.prog 69 [] 26 2 ac69 [(4, none)] :=
 ⟨Try.call69, follows, Try.f69, _, Try.func69, rfl, rfl, by decide, by kernel_rfl, by kernel_rfl⟩

def ac42_G1 : List AOper :=
 [⟨(some 9), .faddr 2 2 true (.tmp 2), (some (8, true)), false⟩,
 ⟨(some 10), .faddr 0 1 false (.tmp 9), (some (8, true)), false⟩,
 ⟨(some 11), .load 1 false (.tmp 10), (some (8, true)), false⟩,
 ⟨(some 12), .faddr 2 2 true (.tmp 3), (some (8, true)), false⟩,
 ⟨(some 13), .faddr 0 1 false (.tmp 12), (some (8, true)), false⟩,
 ⟨(some 14), .load 1 false (.tmp 13), (some (8, true)), false⟩,
 ⟨(some 15), .bin .eql 3 (.tmp 11) (.tmp 14), (some (8, true)), false⟩,
 ⟨(some 16), .pick (.tmp 8) (.tmp 15) (.const (.bool false)), none, false⟩]
def ac42_G2 : List AOper :=
 [⟨(some 18), .faddr 2 2 true (.tmp 2), (some (17, true)), false⟩,
 ⟨(some 19), .faddr 1 1 false (.tmp 18), (some (17, true)), false⟩,
 ⟨(some 20), .load 1 false (.tmp 19), (some (17, true)), false⟩,
 ⟨(some 21), .faddr 2 2 true (.tmp 3), (some (17, true)), false⟩,
 ⟨(some 22), .faddr 1 1 false (.tmp 21), (some (17, true)), false⟩,
 ⟨(some 23), .load 1 false (.tmp 22), (some (17, true)), false⟩,
 ⟨(some 24), .call (.func 69) [(.tmp 20), (.tmp 23)], (some (17, true)), false⟩,
 ⟨(some 25), .pick (.tmp 17) (.tmp 24) (.const (.bool false)), none, false⟩]
/-- patchbay/entry.Equal -/
def ac42 : AC :=
 .seq (.region false [⟨(some 2), .box false 69 (.tmp 0), none, false⟩,
 ⟨(some 3), .box false 69 (.tmp 1), none, false⟩,
 ⟨(some 4), .move (.const (.bool false)), none, false⟩])
 (.seq (.region false (⟨(some 5), .load 4 true (.tmp 2), none, false⟩ :: ⟨(some 6), .load 4 true (.tmp 3), none, false⟩ :: ⟨(some 7), .call (.func 40) [(.tmp 5), (.tmp 6)], none, false⟩ :: ⟨(some 8), .move (.tmp 7), none, false⟩ :: (ac42_G1 ++ (⟨(some 17), .move (.tmp 16), none, false⟩ :: (ac42_G2 ++ [⟨(some 4), .move (.tmp 25), none, false⟩])))))
 (.ret))
theorem text42 : FnText Try.prog 42 [] 26 2 ac42 [(4, none)] :=
 ⟨Try.call42, follows, Try.f42, _, Try.func42, rfl, rfl, by decide, by kernel_rfl, by kernel_rfl⟩

def ac33_G1 : List AOper :=
 [⟨(some 20), .load 9 true (.tmp 1), (some (19, true)), false⟩,
 ⟨(some 21), .load 4 true (.tmp 3), (some (19, true)), false⟩,
 ⟨(some 22), .call (.func 34) [(.tmp 20), (.const (.int .i64 0)), (.tmp 21)], (some (19, true)), false⟩,
 ⟨(some 23), .bin .eql 34 (.tmp 22) (.const (.int .i64 11)), (some (19, true)), false⟩,
 ⟨(some 24), .pick (.tmp 19) (.tmp 23) (.const (.bool false)), none, false⟩]
def ac33_G2 : List AOper :=
 [⟨(some 26), .load 4 true (.tmp 2), (some (25, true)), false⟩,
 ⟨(some 27), .bslice false 57 1 false [(.const (.int .u32 53))], (some (25, true)), false⟩,
 ⟨(some 28), .call (.func 36) [(.tmp 26), (.tmp 27)], (some (25, true)), false⟩,
 ⟨(some 29), .pick (.tmp 25) (.tmp 28) (.const (.bool false)), none, false⟩]
def ac33_G3 : List AOper :=
 [⟨(some 31), .load 4 true (.tmp 2), (some (30, true)), false⟩,
 ⟨(some 32), .bslice false 57 1 false [(.const (.int .u32 69))], (some (30, true)), false⟩,
 ⟨(some 33), .call (.func 36) [(.tmp 31), (.tmp 32)], (some (30, true)), false⟩,
 ⟨(some 34), .un .not (.tmp 33), (some (30, true)), false⟩,
 ⟨(some 35), .pick (.tmp 30) (.tmp 34) (.const (.bool false)), none, false⟩]
def ac33_G4 : List AOper :=
 [⟨(some 37), .load 9 true (.tmp 1), (some (36, true)), false⟩,
 ⟨(some 38), .load 4 true (.tmp 2), (some (36, true)), false⟩,
 ⟨(some 39), .build [(.int .i64 0), (.slice none 0 0), (.int .i64 0), (.int .i64 0), (.slice none 0 0)] [(0, 1, (.const (.int .i64 2))), (1, 4, (.tmp 38))], (some (36, true)), false⟩,
 ⟨(some 40), .load 4 true (.tmp 4), (some (36, true)), false⟩,
 ⟨(some 41), .build [(.int .i64 0), (.slice none 0 0), (.int .i64 0), (.int .i64 0), (.slice none 0 0)] [(0, 1, (.const (.int .i64 1))), (1, 4, (.tmp 40))], (some (36, true)), false⟩,
 ⟨(some 42), .call (.func 38) [(.tmp 37), (.const (.int .i64 0)), (.tmp 39), (.tmp 41)], (some (36, true)), false⟩,
 ⟨(some 43), .pick (.tmp 36) (.tmp 42) (.const (.bool false)), none, false⟩]
def ac33_G5 : List AOper :=
 [⟨(some 45), .load 9 true (.tmp 1), (some (44, true)), false⟩,
 ⟨(some 46), .load 4 true (.tmp 4), (some (44, true)), false⟩,
 ⟨(some 47), .build [(.int .i64 0), (.slice none 0 0), (.int .i64 0), (.int .i64 0), (.slice none 0 0)] [(0, 1, (.const (.int .i64 1))), (1, 4, (.tmp 46))], (some (44, true)), false⟩,
 ⟨(some 48), .load 4 true (.tmp 2), (some (44, true)), false⟩,
 ⟨(some 49), .build [(.int .i64 0), (.slice none 0 0), (.int .i64 0), (.int .i64 0), (.slice none 0 0)] [(0, 1, (.const (.int .i64 2))), (1, 4, (.tmp 48))], (some (44, true)), false⟩,
 ⟨(some 50), .call (.func 38) [(.tmp 45), (.const (.int .i64 0)), (.tmp 47), (.tmp 49)], (some (44, true)), false⟩,
 ⟨(some 51), .un .not (.tmp 50), (some (44, true)), false⟩,
 ⟨(some 52), .pick (.tmp 44) (.tmp 51) (.const (.bool false)), none, false⟩]
def ac33_G6 : List AOper :=
 [⟨(some 54), .load 4 true (.tmp 2), (some (53, true)), false⟩,
 ⟨(some 55), .load 4 true (.tmp 2), (some (53, true)), false⟩,
 ⟨(some 56), .call (.func 40) [(.tmp 54), (.tmp 55)], (some (53, true)), false⟩,
 ⟨(some 57), .pick (.tmp 53) (.tmp 56) (.const (.bool false)), none, false⟩]
def ac33_G7 : List AOper :=
 [⟨(some 59), .load 4 true (.tmp 2), (some (58, true)), false⟩,
 ⟨(some 60), .load 4 true (.tmp 3), (some (58, true)), false⟩,
 ⟨(some 61), .call (.func 42) [(.tmp 59), (.tmp 60)], (some (58, true)), false⟩,
 ⟨(some 62), .un .not (.tmp 61), (some (58, true)), false⟩,
 ⟨(some 63), .pick (.tmp 58) (.tmp 62) (.const (.bool false)), none, false⟩]
/-- patchbay/patchbaylaw23.works -/
def ac33 : AC :=
 .seq (.region false [⟨(some 0), .move (.const (.bool false)), none, false⟩])
 (.seq (.region false [⟨(some 5), .call (.func 62) [(.const (.int .i64 2))], none, false⟩,
 ⟨(some 1), .alloc true 31 (.agg [(.string ⟨[].toArray⟩), (.slice none 0 0), (.slice none 0 0), (.slice none 0 0), (.slice none 0 0), (.slice none 0 0), (.slice none 0 0), (.slice none 0 0), (.slice none 0 0)].toArray), none, false⟩,
 ⟨none, .store 9 (.tmp 1) (.tmp 5), none, false⟩])
 (.seq (.region false [⟨(some 6), .build [(.int .u32 0), (.int .u32 0)] [(0, 1, (.const (.int .u32 48))), (1, 1, (.const (.int .u32 240)))], none, false⟩,
 ⟨(some 7), .bslice false 85 2 false [(.tmp 6)], none, false⟩,
 ⟨(some 8), .build [(.slice none 0 0), (.int .i64 0), (.int .i64 0), (.slice none 0 0)] [(0, 1, (.tmp 7))], none, false⟩,
 ⟨(some 2), .alloc true 69 (.agg [(.slice none 0 0), (.int .i64 0), (.int .i64 0), (.slice none 0 0)].toArray), none, false⟩,
 ⟨none, .store 4 (.tmp 2) (.tmp 8), none, false⟩])
 (.seq (.region false [⟨(some 9), .build [(.int .u32 0), (.int .u32 0)] [(0, 1, (.const (.int .u32 3))), (1, 1, (.const (.int .u32 15)))], none, false⟩,
 ⟨(some 10), .bslice false 85 2 false [(.tmp 9)], none, false⟩,
 ⟨(some 11), .build [(.slice none 0 0), (.int .i64 0), (.int .i64 0), (.slice none 0 0)] [(0, 1, (.tmp 10))], none, false⟩,
 ⟨(some 3), .alloc true 69 (.agg [(.slice none 0 0), (.int .i64 0), (.int .i64 0), (.slice none 0 0)].toArray), none, false⟩,
 ⟨none, .store 4 (.tmp 3) (.tmp 11), none, false⟩])
 (.seq (.region false [⟨(some 12), .build [(.int .u32 0), (.int .u32 0)] [], none, false⟩,
 ⟨(some 13), .bslice false 85 2 false [(.tmp 12)], none, false⟩,
 ⟨(some 14), .build [(.slice none 0 0), (.int .i64 0), (.int .i64 0), (.slice none 0 0)] [(0, 1, (.tmp 13))], none, false⟩,
 ⟨(some 4), .alloc true 69 (.agg [(.slice none 0 0), (.int .i64 0), (.int .i64 0), (.slice none 0 0)].toArray), none, false⟩,
 ⟨none, .store 4 (.tmp 4) (.tmp 14), none, false⟩])
 (.seq (.region false (⟨(some 15), .load 9 true (.tmp 1), none, false⟩ :: ⟨(some 16), .load 4 true (.tmp 2), none, false⟩ :: ⟨(some 17), .call (.func 34) [(.tmp 15), (.const (.int .i64 0)), (.tmp 16)], none, false⟩ :: ⟨(some 18), .bin .eql 34 (.tmp 17) (.const (.int .i64 0)), none, false⟩ :: ⟨(some 19), .move (.tmp 18), none, false⟩ :: (ac33_G1 ++ (⟨(some 25), .move (.tmp 24), none, false⟩ :: (ac33_G2 ++ (⟨(some 30), .move (.tmp 29), none, false⟩ :: (ac33_G3 ++ (⟨(some 36), .move (.tmp 35), none, false⟩ :: (ac33_G4 ++ (⟨(some 44), .move (.tmp 43), none, false⟩ :: (ac33_G5 ++ (⟨(some 53), .move (.tmp 52), none, false⟩ :: (ac33_G6 ++ (⟨(some 58), .move (.tmp 57), none, false⟩ :: (ac33_G7 ++ [⟨(some 0), .move (.tmp 63), none, false⟩])))))))))))))))
 (.ret))))))
theorem text33 : FnText Try.prog 33 [1, 2, 3, 4] 64 0 ac33 [(0, none)] :=
 ⟨Try.call33, follows, Try.f33, _, Try.func33, rfl, rfl, by decide, by kernel_rfl, by kernel_rfl⟩

def ac75_G1 : List AOper :=
 [⟨(some 6), .move (.tmp 0), (some (5, true)), false⟩,
 ⟨(some 7), .bin .leq 5 (.tmp 6) (.const (.int .u8 122)), (some (5, true)), false⟩,
 ⟨(some 8), .pick (.tmp 5) (.tmp 7) (.const (.bool false)), none, false⟩]
def ac75_G3 : List AOper :=
 [⟨(some 13), .move (.tmp 0), (some (12, true)), false⟩,
 ⟨(some 14), .bin .leq 5 (.tmp 13) (.const (.int .u8 90)), (some (12, true)), false⟩,
 ⟨(some 15), .pick (.tmp 12) (.tmp 14) (.const (.bool false)), (some (9, false)), false⟩]
def ac75_G2 : List AOper :=
 (⟨(some 10), .move (.tmp 0), (some (9, false)), false⟩ :: ⟨(some 11), .bin .geq 5 (.tmp 10) (.const (.int .u8 65)), (some (9, false)), false⟩ :: ⟨(some 12), .move (.tmp 11), (some (9, false)), false⟩ :: (ac75_G3 ++ [⟨(some 16), .pick (.tmp 9) (.const (.bool true)) (.tmp 15), none, false⟩]))
/-- patchbay/patchbayref05.letter -/
def ac75 : AC :=
 .seq (.region false [⟨(some 2), .move (.const (.bool false)), none, false⟩])
 (.seq (.region false (⟨(some 3), .move (.tmp 0), none, false⟩ :: ⟨(some 4), .bin .geq 5 (.tmp 3) (.const (.int .u8 97)), none, false⟩ :: ⟨(some 5), .move (.tmp 4), none, false⟩ :: (ac75_G1 ++ (⟨(some 9), .move (.tmp 8), none, false⟩ :: (ac75_G2 ++ [⟨(some 2), .move (.tmp 16), none, false⟩])))))
 (.ret))
theorem text75 : FnText Try.prog 75 [] 17 1 ac75 [(2, none)] :=
 ⟨Try.call75, follows, Try.f75, _, Try.func75, rfl, rfl, by decide, by kernel_rfl, by kernel_rfl⟩

def ac76_G1 : List AOper :=
 [⟨(some 6), .move (.tmp 0), (some (5, true)), false⟩,
 ⟨(some 7), .bin .leq 5 (.tmp 6) (.const (.int .u8 57)), (some (5, true)), false⟩,
 ⟨(some 8), .pick (.tmp 5) (.tmp 7) (.const (.bool false)), none, false⟩]
/-- patchbay/patchbayref05.digit -/
def ac76 : AC :=
 .seq (.region false [⟨(some 2), .move (.const (.bool false)), none, false⟩])
 (.seq (.region false (⟨(some 3), .move (.tmp 0), none, false⟩ :: ⟨(some 4), .bin .geq 5 (.tmp 3) (.const (.int .u8 48)), none, false⟩ :: ⟨(some 5), .move (.tmp 4), none, false⟩ :: (ac76_G1 ++ [⟨(some 2), .move (.tmp 8), none, false⟩])))
 (.ret))
theorem text76 : FnText Try.prog 76 [] 9 1 ac76 [(2, none)] :=
 ⟨Try.call76, follows, Try.f76, _, Try.func76, rfl, rfl, by decide, by kernel_rfl, by kernel_rfl⟩

def ac49_G1 : List AOper :=
 [⟨(some 7), .move (.tmp 0), (some (6, false)), false⟩,
 ⟨(some 8), .bi .len [9].toArray 3 [(.tmp 7)], (some (6, false)), false⟩,
 ⟨(some 9), .bin .gtr 3 (.tmp 8) (.const (.int .i64 16)), (some (6, false)), false⟩,
 ⟨(some 10), .pick (.tmp 6) (.const (.bool true)) (.tmp 9), none, false⟩]
def ac49_G2 : List AOper :=
 [⟨(some 12), .move (.tmp 0), (some (11, false)), false⟩,
 ⟨(some 13), .indexS 9 (.tmp 12) (.const (.int .i64 0)), (some (11, false)), false⟩,
 ⟨(some 14), .call (.func 75) [(.tmp 13)], (some (11, false)), false⟩,
 ⟨(some 15), .un .not (.tmp 14), (some (11, false)), false⟩,
 ⟨(some 16), .pick (.tmp 11) (.const (.bool true)) (.tmp 15), none, false⟩]
def ac49_G3 : List AOper :=
 [⟨(some 29), .move (.tmp 0), (some (28, true)), false⟩,
 ⟨(some 30), .move (.tmp 3), (some (28, true)), false⟩,
 ⟨(some 31), .indexS 9 (.tmp 29) (.tmp 30), (some (28, true)), false⟩,
 ⟨(some 32), .call (.func 76) [(.tmp 31)], (some (28, true)), false⟩,
 ⟨(some 33), .un .not (.tmp 32), (some (28, true)), false⟩,
 ⟨(some 34), .pick (.tmp 28) (.tmp 33) (.const (.bool false)), none, false⟩]
def ac49_G4 : List AOper :=
 [⟨(some 36), .move (.tmp 0), (some (35, true)), false⟩,
 ⟨(some 37), .move (.tmp 3), (some (35, true)), false⟩,
 ⟨(some 38), .indexS 9 (.tmp 36) (.tmp 37), (some (35, true)), false⟩,
 ⟨(some 39), .bin .neq 5 (.tmp 38) (.const (.int .u8 95)), (some (35, true)), false⟩,
 ⟨(some 40), .pick (.tmp 35) (.tmp 39) (.const (.bool false)), none, false⟩]
def ac49_L1 : AC :=
 .seq (.seq (.region false [⟨(some 17), .move (.tmp 3), none, false⟩,
 ⟨(some 18), .move (.tmp 0), none, false⟩,
 ⟨(some 19), .bi .len [9].toArray 3 [(.tmp 18)], none, false⟩,
 ⟨(some 20), .bin .lss 3 (.tmp 17) (.tmp 19), none, false⟩])
 (.cond (.tmp 20)
 (.skip)
 (.exit 0)))
 (.seq (.block 1 (.seq (.region false (⟨(some 23), .move (.tmp 0), none, false⟩ :: ⟨(some 24), .move (.tmp 3), none, false⟩ :: ⟨(some 25), .indexS 9 (.tmp 23) (.tmp 24), none, false⟩ :: ⟨(some 26), .call (.func 75) [(.tmp 25)], none, false⟩ :: ⟨(some 27), .un .not (.tmp 26), none, false⟩ :: ⟨(some 28), .move (.tmp 27), none, false⟩ :: (ac49_G3 ++ (⟨(some 35), .move (.tmp 34), none, false⟩ :: (ac49_G4 ++ [])))))
 (.cond (.tmp 40)
 (.seq (.region false [⟨(some 2), .move (.const (.bool false)), none, false⟩])
 (.ret))
 (.skip))))
 (.region false [⟨(some 21), .move (.tmp 3), none, false⟩,
 ⟨(some 22), .bin .add 3 (.tmp 21) (.const (.int .i64 1)), none, false⟩,
 ⟨(some 3), .move (.tmp 22), none, false⟩]))
/-- patchbay/patchbayref05.IsIdentifier -/
def ac49 : AC :=
 .seq (.region false [⟨(some 2), .move (.const (.bool false)), none, false⟩])
 (.seq (.seq (.region false (⟨(some 4), .move (.tmp 0), none, false⟩ :: ⟨(some 5), .bin .eql 9 (.tmp 4) (.const (.string ⟨[].toArray⟩)), none, false⟩ :: ⟨(some 6), .move (.tmp 5), none, false⟩ :: (ac49_G1 ++ (⟨(some 11), .move (.tmp 10), none, false⟩ :: (ac49_G2 ++ [])))))
 (.cond (.tmp 16)
 (.seq (.region false [⟨(some 2), .move (.const (.bool false)), none, false⟩])
 (.ret))
 (.skip)))
 (.seq (.seq (.region false [⟨(some 3), .move (.const (.int .i64 0)), none, false⟩])
 (.block 0 (.loop ac49_L1)))
 (.seq (.region false [⟨(some 2), .move (.const (.bool true)), none, false⟩])
 (.ret))))
theorem text49 : FnText Try.prog 49 [] 41 1 ac49 [(2, none)] :=
 ⟨Try.call49, follows, Try.f49, _, Try.func49, rfl, rfl, by decide, by kernel_rfl, by kernel_rfl⟩

def ac55_G1 : List AOper :=
 [⟨(some 28), .faddr 1 1 false (.tmp 3), (some (27, false)), false⟩,
 ⟨(some 29), .load 1 false (.tmp 28), (some (27, false)), false⟩,
 ⟨(some 30), .bin .lss 3 (.tmp 29) (.const (.int .i64 0)), (some (27, false)), false⟩,
 ⟨(some 31), .pick (.tmp 27) (.const (.bool true)) (.tmp 30), none, false⟩]
def ac55_G2 : List AOper :=
 [⟨(some 33), .faddr 1 1 false (.tmp 3), (some (32, false)), false⟩,
 ⟨(some 34), .load 1 false (.tmp 33), (some (32, false)), false⟩,
 ⟨(some 35), .move (.tmp 5), (some (32, false)), false⟩,
 ⟨(some 36), .bi .len [23].toArray 3 [(.tmp 35)], (some (32, false)), false⟩,
 ⟨(some 37), .bin .geq 3 (.tmp 34) (.tmp 36), (some (32, false)), false⟩,
 ⟨(some 38), .pick (.tmp 32) (.const (.bool true)) (.tmp 37), none, false⟩]
def ac55_G3 : List AOper :=
 [⟨(some 40), .move (.tmp 5), (some (39, false)), false⟩,
 ⟨(some 41), .faddr 1 1 false (.tmp 3), (some (39, false)), false⟩,
 ⟨(some 42), .load 1 false (.tmp 41), (some (39, false)), false⟩,
 ⟨(some 43), .iaddr 2 (.tmp 40) (.tmp 42), (some (39, false)), false⟩,
 ⟨(some 44), .faddr 1 1 false (.tmp 43), (some (39, false)), false⟩,
 ⟨(some 45), .load 1 false (.tmp 44), (some (39, false)), false⟩,
 ⟨(some 46), .bin .lss 3 (.tmp 45) (.const (.int .i64 1)), (some (39, false)), false⟩,
 ⟨(some 47), .pick (.tmp 39) (.const (.bool true)) (.tmp 46), none, false⟩]
def ac55_G4 : List AOper :=
 [⟨(some 49), .move (.tmp 5), (some (48, false)), false⟩,
 ⟨(some 50), .faddr 1 1 false (.tmp 3), (some (48, false)), false⟩,
 ⟨(some 51), .load 1 false (.tmp 50), (some (48, false)), false⟩,
 ⟨(some 52), .iaddr 2 (.tmp 49) (.tmp 51), (some (48, false)), false⟩,
 ⟨(some 53), .faddr 1 1 false (.tmp 52), (some (48, false)), false⟩,
 ⟨(some 54), .load 1 false (.tmp 53), (some (48, false)), false⟩,
 ⟨(some 55), .bin .gtr 3 (.tmp 54) (.const (.int .i64 32)), (some (48, false)), false⟩,
 ⟨(some 56), .pick (.tmp 48) (.const (.bool true)) (.tmp 55), none, false⟩]
/-- patchbay/patchbayref17.width -/
def ac55 : AC :=
 .seq (.region false [⟨(some 2), .box false 31 (.tmp 0), none, false⟩,
 ⟨(some 3), .box false 60 (.tmp 1), none, false⟩,
 ⟨(some 4), .move (.const (.int .i64 0)), none, false⟩])
 (.seq (.region false [⟨(some 6), .faddr 2 1 false (.tmp 2), none, false⟩,
 ⟨(some 7), .load 1 false (.tmp 6), none, false⟩,
 ⟨(some 5), .move (.tmp 7), none, false⟩])
 (.seq (.seq (.region false [⟨(some 8), .faddr 0 1 false (.tmp 3), none, false⟩,
 ⟨(some 9), .load 1 false (.tmp 8), none, false⟩,
 ⟨(some 10), .bin .geq 3 (.tmp 9) (.const (.int .i64 0)), none, false⟩])
 (.cond (.tmp 10)
 (.seq (.seq (.region false [⟨(some 11), .faddr 0 1 false (.tmp 3), none, false⟩,
 ⟨(some 12), .load 1 false (.tmp 11), none, false⟩,
 ⟨(some 13), .faddr 1 1 false (.tmp 2), none, false⟩,
 ⟨(some 14), .load 1 false (.tmp 13), none, false⟩,
 ⟨(some 15), .bi .len [22].toArray 3 [(.tmp 14)], none, false⟩,
 ⟨(some 16), .bin .geq 3 (.tmp 12) (.tmp 15), none, false⟩])
 (.cond (.tmp 16)
 (.seq (.region false [⟨(some 4), .move (.const (.int .i64 0)), none, false⟩])
 (.ret))
 (.skip)))
 (.region false [⟨(some 17), .faddr 1 1 false (.tmp 2), none, false⟩,
 ⟨(some 18), .load 1 false (.tmp 17), none, false⟩,
 ⟨(some 19), .faddr 0 1 false (.tmp 3), none, false⟩,
 ⟨(some 20), .load 1 false (.tmp 19), none, false⟩,
 ⟨(some 21), .iaddr 2 (.tmp 18) (.tmp 20), none, false⟩,
 ⟨(some 22), .faddr 1 1 false (.tmp 21), none, false⟩,
 ⟨(some 23), .load 1 false (.tmp 22), none, false⟩,
 ⟨(some 5), .move (.tmp 23), none, false⟩]))
 (.skip)))
 (.seq (.seq (.region false (⟨(some 24), .faddr 0 1 false (.tmp 3), none, false⟩ :: ⟨(some 25), .load 1 false (.tmp 24), none, false⟩ :: ⟨(some 26), .bin .lss 3 (.tmp 25) (.const (.int .i64 (-1))), none, false⟩ :: ⟨(some 27), .move (.tmp 26), none, false⟩ :: (ac55_G1 ++ (⟨(some 32), .move (.tmp 31), none, false⟩ :: (ac55_G2 ++ (⟨(some 39), .move (.tmp 38), none, false⟩ :: (ac55_G3 ++ (⟨(some 48), .move (.tmp 47), none, false⟩ :: (ac55_G4 ++ [])))))))))
 (.cond (.tmp 56)
 (.seq (.region false [⟨(some 4), .move (.const (.int .i64 0)), none, false⟩])
 (.ret))
 (.skip)))
 (.seq (.region false [⟨(some 57), .move (.tmp 5), none, false⟩,
 ⟨(some 58), .faddr 1 1 false (.tmp 3), none, false⟩,
 ⟨(some 59), .load 1 false (.tmp 58), none, false⟩,
 ⟨(some 60), .iaddr 2 (.tmp 57) (.tmp 59), none, false⟩,
 ⟨(some 61), .faddr 1 1 false (.tmp 60), none, false⟩,
 ⟨(some 62), .load 1 false (.tmp 61), none, false⟩,
 ⟨(some 4), .move (.tmp 62), none, false⟩])
 (.ret)))))
theorem text55 : FnText Try.prog 55 [] 63 2 ac55 [(4, none)] :=
 ⟨Try.call55, follows, Try.f55, _, Try.func55, rfl, rfl, by decide, by kernel_rfl, by kernel_rfl⟩

def ac50_G1 : List AOper :=
 [⟨(some 40), .move (.tmp 10), (some (39, true)), false⟩,
 ⟨(some 41), .bin .neq 3 (.tmp 40) (.const (.int .i64 2)), (some (39, true)), false⟩,
 ⟨(some 42), .pick (.tmp 39) (.tmp 41) (.const (.bool false)), none, false⟩]
def ac50_G2 : List AOper :=
 [⟨(some 44), .move (.tmp 10), (some (43, true)), false⟩,
 ⟨(some 45), .bin .neq 3 (.tmp 44) (.const (.int .i64 3)), (some (43, true)), false⟩,
 ⟨(some 46), .pick (.tmp 43) (.tmp 45) (.const (.bool false)), none, false⟩]
def ac50_L1 : AC :=
 .seq (.seq (.region false [⟨(some 11), .move (.tmp 8), none, false⟩,
 ⟨(some 12), .faddr 1 1 false (.tmp 3), none, false⟩,
 ⟨(some 13), .load 1 false (.tmp 12), none, false⟩,
 ⟨(some 14), .bi .len [52].toArray 3 [(.tmp 13)], none, false⟩,
 ⟨(some 15), .bin .lss 3 (.tmp 11) (.tmp 14), none, false⟩])
 (.cond (.tmp 15)
 (.skip)
 (.exit 0)))
 (.seq (.block 1 (.seq (.region true [⟨(some 18), .load 9 true (.tmp 2), none, false⟩,
 ⟨(some 19), .faddr 1 1 false (.tmp 3), none, false⟩,
 ⟨(some 20), .load 1 false (.tmp 19), none, false⟩,
 ⟨(some 21), .move (.tmp 8), none, false⟩,
 ⟨(some 22), .iaddr 3 (.tmp 20) (.tmp 21), none, false⟩,
 ⟨(some 23), .faddr 0 2 true (.tmp 22), none, false⟩,
 ⟨(some 24), .load 2 true (.tmp 23), none, false⟩,
 ⟨(some 25), .call (.func 55) [(.tmp 18), (.tmp 24)], none, false⟩,
 ⟨(some 9), .move (.tmp 25), none, false⟩])
 (.seq (.region false [⟨(some 26), .faddr 1 1 false (.tmp 3), none, false⟩,
 ⟨(some 27), .load 1 false (.tmp 26), none, false⟩,
 ⟨(some 28), .move (.tmp 8), none, false⟩,
 ⟨(some 29), .iaddr 3 (.tmp 27) (.tmp 28), none, false⟩,
 ⟨(some 30), .faddr 2 1 false (.tmp 29), none, false⟩,
 ⟨(some 31), .load 1 false (.tmp 30), none, false⟩,
 ⟨(some 10), .move (.tmp 31), none, false⟩])
 (.seq (.block 2 (.seq (.region false [⟨(some 33), .move (.tmp 9), none, false⟩,
 ⟨(some 34), .bin .eql 3 (.tmp 33) (.const (.int .i64 0)), none, false⟩,
 ⟨(some 32), .move (.tmp 34), none, false⟩])
 (.cond (.tmp 32)
 (.seq (.region false [⟨(some 35), .move (.tmp 8), none, false⟩,
 ⟨(some 4), .move (.tmp 35), none, false⟩,
 ⟨(some 5), .move (.const (.int .i64 8)), none, false⟩])
 (.ret))
 (.seq (.region false (⟨(some 37), .move (.tmp 10), none, false⟩ :: ⟨(some 38), .bin .neq 3 (.tmp 37) (.const (.int .i64 1)), none, false⟩ :: ⟨(some 39), .move (.tmp 38), none, false⟩ :: (ac50_G1 ++ (⟨(some 43), .move (.tmp 42), none, false⟩ :: (ac50_G2 ++ [⟨(some 36), .move (.tmp 46), none, false⟩])))))
 (.cond (.tmp 36)
 (.seq (.region false [⟨(some 47), .move (.tmp 8), none, false⟩,
 ⟨(some 4), .move (.tmp 47), none, false⟩,
 ⟨(some 5), .move (.const (.int .i64 11)), none, false⟩])
 (.ret))
 (.seq (.region false [⟨(some 49), .move (.tmp 10), none, false⟩,
 ⟨(some 50), .bin .eql 3 (.tmp 49) (.const (.int .i64 2)), none, false⟩,
 ⟨(some 48), .move (.tmp 50), none, false⟩])
 (.cond (.tmp 48)
 (.region false [⟨(some 51), .move (.tmp 7), none, false⟩,
 ⟨(some 52), .bin .add 3 (.tmp 51) (.const (.int .i64 1)), none, false⟩,
 ⟨(some 7), .move (.tmp 52), none, false⟩])
 (.skip))))))))
 (.region false [⟨(some 53), .move (.tmp 6), none, false⟩,
 ⟨(some 54), .move (.tmp 9), none, false⟩,
 ⟨(some 55), .bin .add 3 (.tmp 53) (.tmp 54), none, false⟩,
 ⟨(some 6), .move (.tmp 55), none, false⟩])))))
 (.region false [⟨(some 16), .move (.tmp 8), none, false⟩,
 ⟨(some 17), .bin .add 3 (.tmp 16) (.const (.int .i64 1)), none, false⟩,
 ⟨(some 8), .move (.tmp 17), none, false⟩]))
/-- patchbay/patchbayref17.keys -/
def ac50 : AC :=
 .seq (.region false [⟨(some 2), .box false 31 (.tmp 0), none, false⟩,
 ⟨(some 3), .box false 56 (.tmp 1), none, false⟩,
 ⟨(some 4), .move (.const (.int .i64 0)), none, false⟩,
 ⟨(some 5), .move (.const (.int .i64 0)), none, false⟩])
 (.seq (.region false [⟨(some 6), .move (.const (.int .i64 0)), none, false⟩])
 (.seq (.region false [⟨(some 7), .move (.const (.int .i64 0)), none, false⟩])
 (.seq (.seq (.region false [⟨(some 8), .move (.const (.int .i64 0)), none, false⟩])
 (.block 0 (.loop ac50_L1)))
 (.seq (.block 3 (.seq (.region false [⟨(some 57), .move (.tmp 7), none, false⟩,
 ⟨(some 58), .bin .gtr 3 (.tmp 57) (.const (.int .i64 1)), none, false⟩,
 ⟨(some 56), .move (.tmp 58), none, false⟩])
 (.cond (.tmp 56)
 (.seq (.region false [⟨(some 4), .move (.const (.int .i64 (-2))), none, false⟩,
 ⟨(some 5), .move (.const (.int .i64 7)), none, false⟩])
 (.ret))
 (.seq (.region false [⟨(some 60), .move (.tmp 6), none, false⟩,
 ⟨(some 61), .bin .gtr 3 (.tmp 60) (.const (.int .i64 64)), none, false⟩,
 ⟨(some 59), .move (.tmp 61), none, false⟩])
 (.cond (.tmp 59)
 (.seq (.region false [⟨(some 4), .move (.const (.int .i64 (-2))), none, false⟩,
 ⟨(some 5), .move (.const (.int .i64 10)), none, false⟩])
 (.ret))
 (.skip))))))
 (.seq (.region false [⟨(some 4), .move (.const (.int .i64 0)), none, false⟩,
 ⟨(some 5), .move (.const (.int .i64 0)), none, false⟩])
 (.ret))))))
theorem text50 : FnText Try.prog 50 [] 62 2 ac50 [(4, none), (5, none)] :=
 ⟨Try.call50, follows, Try.f50, _, Try.func50, rfl, rfl, by decide, by kernel_rfl, by kernel_rfl⟩

def ac56_L1 : AC :=
 .seq (.seq (.region false [⟨(some 6), .move (.tmp 5), none, false⟩,
 ⟨(some 7), .move (.tmp 0), none, false⟩,
 ⟨(some 8), .bi .len [29].toArray 3 [(.tmp 7)], none, false⟩,
 ⟨(some 9), .bin .lss 3 (.tmp 6) (.tmp 8), none, false⟩])
 (.cond (.tmp 9)
 (.skip)
 (.exit 0)))
 (.seq (.block 1 (.seq (.region false [⟨(some 12), .move (.tmp 0), none, false⟩,
 ⟨(some 13), .move (.tmp 5), none, false⟩,
 ⟨(some 14), .iaddr 1 (.tmp 12) (.tmp 13), none, false⟩,
 ⟨(some 15), .load 1 false (.tmp 14), none, false⟩,
 ⟨(some 16), .move (.tmp 1), none, false⟩,
 ⟨(some 17), .bin .eql 3 (.tmp 15) (.tmp 16), none, false⟩])
 (.cond (.tmp 17)
 (.seq (.region false [⟨(some 18), .move (.tmp 5), none, false⟩,
 ⟨(some 4), .move (.tmp 18), none, false⟩])
 (.ret))
 (.skip))))
 (.region false [⟨(some 10), .move (.tmp 5), none, false⟩,
 ⟨(some 11), .bin .add 3 (.tmp 10) (.const (.int .i64 1)), none, false⟩,
 ⟨(some 5), .move (.tmp 11), none, false⟩]))
/-- patchbay/patchbayref17.index -/
def ac56 : AC :=
 .seq (.region false [⟨(some 4), .move (.const (.int .i64 0)), none, false⟩])
 (.seq (.seq (.region false [⟨(some 5), .move (.const (.int .i64 0)), none, false⟩])
 (.block 0 (.loop ac56_L1)))
 (.seq (.region false [⟨(some 4), .move (.const (.int .i64 (-1))), none, false⟩])
 (.ret)))
theorem text56 : FnText Try.prog 56 [] 19 2 ac56 [(4, none)] :=
 ⟨Try.call56, follows, Try.f56, _, Try.func56, rfl, rfl, by decide, by kernel_rfl, by kernel_rfl⟩

def ac60_G1 : List AOper :=
 [⟨(some 6), .move (.tmp 0), (some (5, true)), false⟩,
 ⟨(some 7), .bin .leq 3 (.tmp 6) (.const (.int .i64 32)), (some (5, true)), false⟩,
 ⟨(some 8), .pick (.tmp 5) (.tmp 7) (.const (.bool false)), none, false⟩]
/-- patchbay/patchbayref01.valid -/
def ac60 : AC :=
 .seq (.region false [⟨(some 2), .move (.const (.bool false)), none, false⟩])
 (.seq (.region false (⟨(some 3), .move (.tmp 0), none, false⟩ :: ⟨(some 4), .bin .geq 3 (.tmp 3) (.const (.int .i64 1)), none, false⟩ :: ⟨(some 5), .move (.tmp 4), none, false⟩ :: (ac60_G1 ++ [⟨(some 2), .move (.tmp 8), none, false⟩])))
 (.ret))
theorem text60 : FnText Try.prog 60 [] 9 1 ac60 [(2, none)] :=
 ⟨Try.call60, follows, Try.f60, _, Try.func60, rfl, rfl, by decide, by kernel_rfl, by kernel_rfl⟩

def ac61_L1 : AC :=
 .seq (.seq (.region false [⟨(some 5), .move (.tmp 4), none, false⟩,
 ⟨(some 6), .move (.tmp 0), none, false⟩,
 ⟨(some 7), .bin .lss 3 (.tmp 5) (.tmp 6), none, false⟩])
 (.cond (.tmp 7)
 (.skip)
 (.exit 0)))
 (.seq (.block 1 (.region false [⟨(some 10), .move (.tmp 3), none, false⟩,
 ⟨(some 11), .bin .mul 106 (.const (.int .u64 2)) (.tmp 10), none, false⟩,
 ⟨(some 3), .move (.tmp 11), none, false⟩]))
 (.region false [⟨(some 8), .move (.tmp 4), none, false⟩,
 ⟨(some 9), .bin .add 3 (.tmp 8) (.const (.int .i64 1)), none, false⟩,
 ⟨(some 4), .move (.tmp 9), none, false⟩]))
/-- patchbay/patchbayref01.power -/
def ac61 : AC :=
 .seq (.region false [⟨(some 2), .move (.const (.int .u64 0)), none, false⟩])
 (.seq (.region false [⟨(some 3), .move (.const (.int .u64 1)), none, false⟩])
 (.seq (.seq (.region false [⟨(some 4), .move (.const (.int .i64 0)), none, false⟩])
 (.block 0 (.loop ac61_L1)))
 (.seq (.region false [⟨(some 12), .move (.tmp 3), none, false⟩,
 ⟨(some 2), .move (.tmp 12), none, false⟩])
 (.ret))))
theorem text61 : FnText Try.prog 61 [] 13 1 ac61 [(2, none)] :=
 ⟨Try.call61, follows, Try.f61, _, Try.func61, rfl, rfl, by decide, by kernel_rfl, by kernel_rfl⟩

def ac86_G1 : List AOper :=
 [⟨(some 8), .move (.tmp 0), (some (7, true)), false⟩,
 ⟨(some 9), .conv 57 106 (.tmp 8), (some (7, true)), false⟩,
 ⟨(some 10), .move (.tmp 1), (some (7, true)), false⟩,
 ⟨(some 11), .call (.func 61) [(.tmp 10)], (some (7, true)), false⟩,
 ⟨(some 12), .bin .lss 106 (.tmp 9) (.tmp 11), (some (7, true)), false⟩,
 ⟨(some 13), .pick (.tmp 7) (.tmp 12) (.const (.bool false)), none, false⟩]
/-- patchbay/patchbayref01.Fits -/
def ac86 : AC :=
 .seq (.region false [⟨(some 4), .move (.const (.bool false)), none, false⟩])
 (.seq (.region false (⟨(some 5), .move (.tmp 1), none, false⟩ :: ⟨(some 6), .call (.func 60) [(.tmp 5)], none, false⟩ :: ⟨(some 7), .move (.tmp 6), none, false⟩ :: (ac86_G1 ++ [⟨(some 4), .move (.tmp 13), none, false⟩])))
 (.ret))
theorem text86 : FnText Try.prog 86 [] 14 2 ac86 [(4, none)] :=
 ⟨Try.call86, follows, Try.f86, _, Try.func86, rfl, rfl, by decide, by kernel_rfl, by kernel_rfl⟩

def ac66_G1 : List AOper :=
 [⟨(some 11), .faddr 0 1 false (.tmp 3), (some (10, false)), false⟩,
 ⟨(some 12), .load 1 false (.tmp 11), (some (10, false)), false⟩,
 ⟨(some 13), .faddr 4 1 false (.tmp 2), (some (10, false)), false⟩,
 ⟨(some 14), .load 1 false (.tmp 13), (some (10, false)), false⟩,
 ⟨(some 15), .bi .len [25].toArray 3 [(.tmp 14)], (some (10, false)), false⟩,
 ⟨(some 16), .bin .geq 3 (.tmp 12) (.tmp 15), (some (10, false)), false⟩,
 ⟨(some 17), .pick (.tmp 10) (.const (.bool true)) (.tmp 16), none, false⟩]
def ac66_L1 : AC :=
 .seq (.seq (.region false [⟨(some 31), .move (.tmp 6), none, false⟩,
 ⟨(some 32), .move (.tmp 5), none, false⟩,
 ⟨(some 33), .bi .len [23].toArray 3 [(.tmp 32)], none, false⟩,
 ⟨(some 34), .bin .lss 3 (.tmp 31) (.tmp 33), none, false⟩])
 (.cond (.tmp 34)
 (.skip)
 (.exit 0)))
 (.seq (.block 1 (.seq (.region true [⟨(some 37), .faddr 1 1 false (.tmp 3), none, false⟩,
 ⟨(some 38), .load 1 false (.tmp 37), none, false⟩,
 ⟨(some 39), .move (.tmp 6), none, false⟩,
 ⟨(some 40), .iaddr 1 (.tmp 38) (.tmp 39), none, false⟩,
 ⟨(some 41), .load 1 false (.tmp 40), none, false⟩,
 ⟨(some 42), .move (.tmp 5), none, false⟩,
 ⟨(some 43), .move (.tmp 6), none, false⟩,
 ⟨(some 44), .iaddr 2 (.tmp 42) (.tmp 43), none, false⟩,
 ⟨(some 45), .faddr 1 1 false (.tmp 44), none, false⟩,
 ⟨(some 46), .load 1 false (.tmp 45), none, false⟩,
 ⟨(some 47), .call (.func 86) [(.tmp 41), (.tmp 46)], none, false⟩,
 ⟨(some 48), .un .not (.tmp 47), none, false⟩])
 (.cond (.tmp 48)
 (.seq (.region false [⟨(some 4), .move (.const (.int .i64 9)), none, false⟩])
 (.ret))
 (.skip))))
 (.region false [⟨(some 35), .move (.tmp 6), none, false⟩,
 ⟨(some 36), .bin .add 3 (.tmp 35) (.const (.int .i64 1)), none, false⟩,
 ⟨(some 6), .move (.tmp 36), none, false⟩]))
/-- patchbay/patchbayref16.CheckCall -/
def ac66 : AC :=
 .seq (.region false [⟨(some 2), .box false 31 (.tmp 0), none, false⟩,
 ⟨(some 3), .box false 54 (.tmp 1), none, false⟩,
 ⟨(some 4), .move (.const (.int .i64 0)), none, false⟩])
 (.seq (.seq (.region false (⟨(some 7), .faddr 0 1 false (.tmp 3), none, false⟩ :: ⟨(some 8), .load 1 false (.tmp 7), none, false⟩ :: ⟨(some 9), .bin .lss 3 (.tmp 8) (.const (.int .i64 0)), none, false⟩ :: ⟨(some 10), .move (.tmp 9), none, false⟩ :: (ac66_G1 ++ [])))
 (.cond (.tmp 17)
 (.seq (.region false [⟨(some 4), .move (.const (.int .i64 8)), none, false⟩])
 (.ret))
 (.skip)))
 (.seq (.region false [⟨(some 18), .faddr 4 1 false (.tmp 2), none, false⟩,
 ⟨(some 19), .load 1 false (.tmp 18), none, false⟩,
 ⟨(some 20), .faddr 0 1 false (.tmp 3), none, false⟩,
 ⟨(some 21), .load 1 false (.tmp 20), none, false⟩,
 ⟨(some 22), .iaddr 3 (.tmp 19) (.tmp 21), none, false⟩,
 ⟨(some 23), .faddr 1 1 false (.tmp 22), none, false⟩,
 ⟨(some 24), .load 1 false (.tmp 23), none, false⟩,
 ⟨(some 5), .move (.tmp 24), none, false⟩])
 (.seq (.seq (.region false [⟨(some 25), .faddr 1 1 false (.tmp 3), none, false⟩,
 ⟨(some 26), .load 1 false (.tmp 25), none, false⟩,
 ⟨(some 27), .bi .len [44].toArray 3 [(.tmp 26)], none, false⟩,
 ⟨(some 28), .move (.tmp 5), none, false⟩,
 ⟨(some 29), .bi .len [23].toArray 3 [(.tmp 28)], none, false⟩,
 ⟨(some 30), .bin .neq 3 (.tmp 27) (.tmp 29), none, false⟩])
 (.cond (.tmp 30)
 (.seq (.region false [⟨(some 4), .move (.const (.int .i64 2)), none, false⟩])
 (.ret))
 (.skip)))
 (.seq (.seq (.region false [⟨(some 6), .move (.const (.int .i64 0)), none, false⟩])
 (.block 0 (.loop ac66_L1)))
 (.seq (.region false [⟨(some 4), .move (.const (.int .i64 0)), none, false⟩])
 (.ret))))))
theorem text66 : FnText Try.prog 66 [] 49 2 ac66 [(4, none)] :=
 ⟨Try.call66, follows, Try.f66, _, Try.func66, rfl, rfl, by decide, by kernel_rfl, by kernel_rfl⟩

def ac51_G1 : List AOper :=
 [⟨(some 21), .faddr 2 1 false (.tmp 3), (some (20, false)), false⟩,
 ⟨(some 22), .load 1 false (.tmp 21), (some (20, false)), false⟩,
 ⟨(some 23), .move (.tmp 5), (some (20, false)), false⟩,
 ⟨(some 24), .iaddr 1 (.tmp 22) (.tmp 23), (some (20, false)), false⟩,
 ⟨(some 25), .load 1 false (.tmp 24), (some (20, false)), false⟩,
 ⟨(some 26), .faddr 4 1 false (.tmp 2), (some (20, false)), false⟩,
 ⟨(some 27), .load 1 false (.tmp 26), (some (20, false)), false⟩,
 ⟨(some 28), .bi .len [25].toArray 3 [(.tmp 27)], (some (20, false)), false⟩,
 ⟨(some 29), .bin .geq 3 (.tmp 25) (.tmp 28), (some (20, false)), false⟩,
 ⟨(some 30), .pick (.tmp 20) (.const (.bool true)) (.tmp 29), none, false⟩]
def ac51_L1 : AC :=
 .seq (.seq (.region false [⟨(some 6), .move (.tmp 5), none, false⟩,
 ⟨(some 7), .faddr 2 1 false (.tmp 3), none, false⟩,
 ⟨(some 8), .load 1 false (.tmp 7), none, false⟩,
 ⟨(some 9), .bi .len [29].toArray 3 [(.tmp 8)], none, false⟩,
 ⟨(some 10), .bin .lss 3 (.tmp 6) (.tmp 9), none, false⟩])
 (.cond (.tmp 10)
 (.skip)
 (.exit 0)))
 (.seq (.block 1 (.block 2 (.seq (.region true (⟨(some 14), .faddr 2 1 false (.tmp 3), none, false⟩ :: ⟨(some 15), .load 1 false (.tmp 14), none, false⟩ :: ⟨(some 16), .move (.tmp 5), none, false⟩ :: ⟨(some 17), .iaddr 1 (.tmp 15) (.tmp 16), none, false⟩ :: ⟨(some 18), .load 1 false (.tmp 17), none, false⟩ :: ⟨(some 19), .bin .lss 3 (.tmp 18) (.const (.int .i64 0)), none, false⟩ :: ⟨(some 20), .move (.tmp 19), none, false⟩ :: (ac51_G1 ++ [⟨(some 13), .move (.tmp 30), none, false⟩])))
 (.cond (.tmp 13)
 (.seq (.region false [⟨(some 4), .move (.const (.int .i64 8)), none, false⟩])
 (.ret))
 (.seq (.region true [⟨(some 32), .faddr 2 1 false (.tmp 3), none, false⟩,
 ⟨(some 33), .load 1 false (.tmp 32), none, false⟩,
 ⟨(some 34), .faddr 2 1 false (.tmp 3), none, false⟩,
 ⟨(some 35), .load 1 false (.tmp 34), none, false⟩,
 ⟨(some 36), .move (.tmp 5), none, false⟩,
 ⟨(some 37), .iaddr 1 (.tmp 35) (.tmp 36), none, false⟩,
 ⟨(some 38), .load 1 false (.tmp 37), none, false⟩,
 ⟨(some 39), .call (.func 56) [(.tmp 33), (.tmp 38)], none, false⟩,
 ⟨(some 40), .move (.tmp 5), none, false⟩,
 ⟨(some 41), .bin .lss 3 (.tmp 39) (.tmp 40), none, false⟩,
 ⟨(some 31), .move (.tmp 41), none, false⟩])
 (.cond (.tmp 31)
 (.seq (.region false [⟨(some 4), .move (.const (.int .i64 7)), none, false⟩])
 (.ret))
 (.skip)))))))
 (.region false [⟨(some 11), .move (.tmp 5), none, false⟩,
 ⟨(some 12), .bin .add 3 (.tmp 11) (.const (.int .i64 1)), none, false⟩,
 ⟨(some 5), .move (.tmp 12), none, false⟩]))
/-- patchbay/patchbayref17.actions -/
def ac51 : AC :=
 .seq (.region false [⟨(some 2), .box false 31 (.tmp 0), none, false⟩,
 ⟨(some 3), .box false 56 (.tmp 1), none, false⟩,
 ⟨(some 4), .move (.const (.int .i64 0)), none, false⟩])
 (.seq (.seq (.region false [⟨(some 5), .move (.const (.int .i64 0)), none, false⟩])
 (.block 0 (.loop ac51_L1)))
 (.seq (.seq (.region false [⟨(some 42), .faddr 2 1 false (.tmp 3), none, false⟩,
 ⟨(some 43), .load 1 false (.tmp 42), none, false⟩,
 ⟨(some 44), .faddr 3 2 true (.tmp 3), none, false⟩,
 ⟨(some 45), .faddr 0 1 false (.tmp 44), none, false⟩,
 ⟨(some 46), .load 1 false (.tmp 45), none, false⟩,
 ⟨(some 47), .call (.func 56) [(.tmp 43), (.tmp 46)], none, false⟩,
 ⟨(some 48), .bin .lss 3 (.tmp 47) (.const (.int .i64 0)), none, false⟩])
 (.cond (.tmp 48)
 (.seq (.region false [⟨(some 4), .move (.const (.int .i64 8)), none, false⟩])
 (.ret))
 (.skip)))
 (.seq (.region false [⟨(some 49), .load 9 true (.tmp 2), none, false⟩,
 ⟨(some 50), .faddr 3 2 true (.tmp 3), none, false⟩,
 ⟨(some 51), .load 2 true (.tmp 50), none, false⟩,
 ⟨(some 52), .call (.func 66) [(.tmp 49), (.tmp 51)], none, false⟩,
 ⟨(some 4), .move (.tmp 52), none, false⟩])
 (.ret))))
theorem text51 : FnText Try.prog 51 [] 53 2 ac51 [(4, none)] :=
 ⟨Try.call51, follows, Try.f51, _, Try.func51, rfl, rfl, by decide, by kernel_rfl, by kernel_rfl⟩

def ac17_G1 : List AOper :=
 [⟨(some 12), .move (.tmp 1), (some (11, false)), false⟩,
 ⟨(some 13), .faddr 5 1 false (.tmp 2), (some (11, false)), false⟩,
 ⟨(some 14), .load 1 false (.tmp 13), (some (11, false)), false⟩,
 ⟨(some 15), .bi .len [26].toArray 3 [(.tmp 14)], (some (11, false)), false⟩,
 ⟨(some 16), .bin .geq 3 (.tmp 12) (.tmp 15), (some (11, false)), false⟩,
 ⟨(some 17), .pick (.tmp 11) (.const (.bool true)) (.tmp 16), none, false⟩]
def ac17_G2 : List AOper :=
 [⟨(some 34), .faddr 2 1 false (.tmp 6), (some (33, false)), false⟩,
 ⟨(some 35), .load 1 false (.tmp 34), (some (33, false)), false⟩,
 ⟨(some 36), .bi .len [29].toArray 3 [(.tmp 35)], (some (33, false)), false⟩,
 ⟨(some 37), .bin .gtr 3 (.tmp 36) (.const (.int .i64 16)), (some (33, false)), false⟩,
 ⟨(some 38), .pick (.tmp 33) (.const (.bool true)) (.tmp 37), none, false⟩]
def ac17_G3 : List AOper :=
 [⟨(some 44), .faddr 5 1 false (.tmp 6), (some (43, false)), false⟩,
 ⟨(some 45), .load 1 false (.tmp 44), (some (43, false)), false⟩,
 ⟨(some 46), .bin .gtr 3 (.tmp 45) (.const (.int .i64 256)), (some (43, false)), false⟩,
 ⟨(some 47), .pick (.tmp 43) (.const (.bool true)) (.tmp 46), none, false⟩]
/-- patchbay/patchbayref17.Check -/
def ac17 : AC :=
 .seq (.region false [⟨(some 2), .box false 31 (.tmp 0), none, false⟩,
 ⟨(some 4), .move (.const (.int .i64 0)), none, false⟩,
 ⟨(some 5), .move (.const (.int .i64 0)), none, false⟩])
 (.seq (.seq (.region false (⟨(some 9), .move (.tmp 1), none, false⟩ :: ⟨(some 10), .bin .lss 3 (.tmp 9) (.const (.int .i64 0)), none, false⟩ :: ⟨(some 11), .move (.tmp 10), none, false⟩ :: (ac17_G1 ++ [])))
 (.cond (.tmp 17)
 (.seq (.region false [⟨(some 4), .move (.const (.int .i64 (-1))), none, false⟩,
 ⟨(some 5), .move (.const (.int .i64 8)), none, false⟩])
 (.ret))
 (.skip)))
 (.seq (.region false [⟨(some 18), .faddr 5 1 false (.tmp 2), none, false⟩,
 ⟨(some 19), .load 1 false (.tmp 18), none, false⟩,
 ⟨(some 20), .move (.tmp 1), none, false⟩,
 ⟨(some 21), .iaddr 6 (.tmp 19) (.tmp 20), none, false⟩,
 ⟨(some 22), .load 6 true (.tmp 21), none, false⟩,
 ⟨(some 6), .alloc true 56 (.agg [(.string ⟨[].toArray⟩), (.slice none 0 0), (.slice none 0 0), (.int .i64 0), (.slice none 0 0), (.int .i64 0)].toArray), none, false⟩,
 ⟨none, .store 6 (.tmp 6) (.tmp 22), none, false⟩])
 (.seq (.block 0 (.seq (.region false [⟨(some 24), .faddr 0 1 false (.tmp 6), none, false⟩,
 ⟨(some 25), .load 1 false (.tmp 24), none, false⟩,
 ⟨(some 26), .call (.func 49) [(.tmp 25)], none, false⟩,
 ⟨(some 27), .un .not (.tmp 26), none, false⟩,
 ⟨(some 23), .move (.tmp 27), none, false⟩])
 (.cond (.tmp 23)
 (.seq (.region false [⟨(some 4), .move (.const (.int .i64 (-1))), none, false⟩,
 ⟨(some 5), .move (.const (.int .i64 6)), none, false⟩])
 (.ret))
 (.seq (.region false (⟨(some 29), .faddr 1 1 false (.tmp 6), none, false⟩ :: ⟨(some 30), .load 1 false (.tmp 29), none, false⟩ :: ⟨(some 31), .bi .len [52].toArray 3 [(.tmp 30)], none, false⟩ :: ⟨(some 32), .bin .gtr 3 (.tmp 31) (.const (.int .i64 6)), none, false⟩ :: ⟨(some 33), .move (.tmp 32), none, false⟩ :: (ac17_G2 ++ [⟨(some 28), .move (.tmp 38), none, false⟩])))
 (.cond (.tmp 28)
 (.seq (.region false [⟨(some 4), .move (.const (.int .i64 (-1))), none, false⟩,
 ⟨(some 5), .move (.const (.int .i64 12)), none, false⟩])
 (.ret))
 (.seq (.region false (⟨(some 40), .faddr 5 1 false (.tmp 6), none, false⟩ :: ⟨(some 41), .load 1 false (.tmp 40), none, false⟩ :: ⟨(some 42), .bin .lss 3 (.tmp 41) (.const (.int .i64 1)), none, false⟩ :: ⟨(some 43), .move (.tmp 42), none, false⟩ :: (ac17_G3 ++ [⟨(some 39), .move (.tmp 47), none, false⟩])))
 (.cond (.tmp 39)
 (.seq (.region false [⟨(some 4), .move (.const (.int .i64 (-1))), none, false⟩,
 ⟨(some 5), .move (.const (.int .i64 9)), none, false⟩])
 (.ret))
 (.skip))))))))
 (.seq (.region false [⟨(some 49), .load 9 true (.tmp 2), none, false⟩,
 ⟨(some 50), .load 6 true (.tmp 6), none, false⟩,
 ⟨(some 51), .call (.func 50) [(.tmp 49), (.tmp 50)], none, false⟩,
 ⟨(some 48), .move (.tmp 51), none, false⟩,
 ⟨(some 52), .extract (.tmp 48) 0, none, false⟩,
 ⟨(some 53), .extract (.tmp 48) 1, none, false⟩,
 ⟨(some 7), .move (.tmp 52), none, false⟩,
 ⟨(some 8), .move (.tmp 53), none, false⟩])
 (.seq (.seq (.region false [⟨(some 54), .move (.tmp 8), none, false⟩,
 ⟨(some 55), .bin .neq 34 (.tmp 54) (.const (.int .i64 0)), none, false⟩])
 (.cond (.tmp 55)
 (.seq (.region false [⟨(some 56), .move (.tmp 7), none, false⟩,
 ⟨(some 57), .move (.tmp 8), none, false⟩,
 ⟨(some 4), .move (.tmp 56), none, false⟩,
 ⟨(some 5), .move (.tmp 57), none, false⟩])
 (.ret))
 (.skip)))
 (.seq (.region false [⟨(some 58), .load 9 true (.tmp 2), none, false⟩,
 ⟨(some 59), .load 6 true (.tmp 6), none, false⟩,
 ⟨(some 60), .call (.func 51) [(.tmp 58), (.tmp 59)], none, false⟩,
 ⟨(some 8), .move (.tmp 60), none, false⟩])
 (.seq (.seq (.region false [⟨(some 61), .move (.tmp 8), none, false⟩,
 ⟨(some 62), .bin .neq 34 (.tmp 61) (.const (.int .i64 0)), none, false⟩])
 (.cond (.tmp 62)
 (.seq (.region false [⟨(some 63), .move (.tmp 8), none, false⟩,
 ⟨(some 4), .move (.const (.int .i64 (-3))), none, false⟩,
 ⟨(some 5), .move (.tmp 63), none, false⟩])
 (.ret))
 (.skip)))
 (.seq (.region false [⟨(some 4), .move (.const (.int .i64 0)), none, false⟩,
 ⟨(some 5), .move (.const (.int .i64 0)), none, false⟩])
 (.ret)))))))))
theorem text17 : FnText Try.prog 17 [6] 64 2 ac17 [(4, none), (5, none)] :=
 ⟨Try.call17, follows, Try.f17, _, Try.func17, rfl, rfl, by decide, by kernel_rfl, by kernel_rfl⟩


/-- patchbay/patchbayref17.valid -/
def ac53 : AC :=
 .seq (.region false [⟨(some 2), .box false 31 (.tmp 0), none, false⟩,
 ⟨(some 4), .move (.const (.bool false)), none, false⟩])
 (.seq (.region false [⟨(some 8), .load 9 true (.tmp 2), none, false⟩,
 ⟨(some 9), .move (.tmp 1), none, false⟩,
 ⟨(some 10), .call (.func 17) [(.tmp 8), (.tmp 9)], none, false⟩,
 ⟨(some 7), .move (.tmp 10), none, false⟩,
 ⟨(some 11), .extract (.tmp 7) 0, none, false⟩,
 ⟨(some 12), .extract (.tmp 7) 1, none, false⟩,
 ⟨(some 5), .move (.tmp 11), none, false⟩,
 ⟨(some 6), .move (.tmp 12), none, false⟩])
 (.seq (.region false [⟨(some 13), .move (.tmp 6), none, false⟩,
 ⟨(some 14), .bin .eql 34 (.tmp 13) (.const (.int .i64 0)), none, false⟩,
 ⟨(some 4), .move (.tmp 14), none, false⟩])
 (.ret)))
theorem text53 : FnText Try.prog 53 [] 15 2 ac53 [(4, none)] :=
 ⟨Try.call53, follows, Try.f53, _, Try.func53, rfl, rfl, by decide, by kernel_rfl, by kernel_rfl⟩

def ac22_L1 : AC :=
 .seq (.seq (.region false [⟨(some 11), .move (.tmp 6), none, false⟩,
 ⟨(some 12), .faddr 5 1 false (.tmp 2), none, false⟩,
 ⟨(some 13), .load 1 false (.tmp 12), none, false⟩,
 ⟨(some 14), .move (.tmp 1), none, false⟩,
 ⟨(some 15), .iaddr 6 (.tmp 13) (.tmp 14), none, false⟩,
 ⟨(some 16), .faddr 1 1 false (.tmp 15), none, false⟩,
 ⟨(some 17), .load 1 false (.tmp 16), none, false⟩,
 ⟨(some 18), .bi .len [52].toArray 3 [(.tmp 17)], none, false⟩,
 ⟨(some 19), .bin .lss 3 (.tmp 11) (.tmp 18), none, false⟩])
 (.cond (.tmp 19)
 (.skip)
 (.exit 0)))
 (.seq (.block 1 (.region true [⟨(some 22), .move (.tmp 5), none, false⟩,
 ⟨(some 23), .load 9 true (.tmp 2), none, false⟩,
 ⟨(some 24), .faddr 5 1 false (.tmp 2), none, false⟩,
 ⟨(some 25), .load 1 false (.tmp 24), none, false⟩,
 ⟨(some 26), .move (.tmp 1), none, false⟩,
 ⟨(some 27), .iaddr 6 (.tmp 25) (.tmp 26), none, false⟩,
 ⟨(some 28), .faddr 1 1 false (.tmp 27), none, false⟩,
 ⟨(some 29), .load 1 false (.tmp 28), none, false⟩,
 ⟨(some 30), .move (.tmp 6), none, false⟩,
 ⟨(some 31), .iaddr 3 (.tmp 29) (.tmp 30), none, false⟩,
 ⟨(some 32), .faddr 0 2 true (.tmp 31), none, false⟩,
 ⟨(some 33), .load 2 true (.tmp 32), none, false⟩,
 ⟨(some 34), .call (.func 55) [(.tmp 23), (.tmp 33)], none, false⟩,
 ⟨(some 35), .bslice false 3 1 false [(.tmp 34)], none, false⟩,
 ⟨(some 36), .append 29 3 1 8 (.tmp 22) (.tmp 35), none, false⟩,
 ⟨(some 5), .move (.tmp 36), none, false⟩]))
 (.region false [⟨(some 20), .move (.tmp 6), none, false⟩,
 ⟨(some 21), .bin .add 3 (.tmp 20) (.const (.int .i64 1)), none, false⟩,
 ⟨(some 6), .move (.tmp 21), none, false⟩]))
/-- patchbay/patchbayref17.Widths -/
def ac22 : AC :=
 .seq (.region false [⟨(some 2), .box false 31 (.tmp 0), none, false⟩,
 ⟨(some 4), .move (.const (.slice none 0 0)), none, false⟩])
 (.seq (.seq (.region false [⟨(some 7), .load 9 true (.tmp 2), none, false⟩,
 ⟨(some 8), .move (.tmp 1), none, false⟩,
 ⟨(some 9), .call (.func 53) [(.tmp 7), (.tmp 8)], none, false⟩,
 ⟨(some 10), .un .not (.tmp 9), none, false⟩])
 (.cond (.tmp 10)
 (.seq (.region false [⟨(some 4), .move (.const (.slice none 0 0)), none, false⟩])
 (.ret))
 (.skip)))
 (.seq (.region false [⟨(some 5), .move (.const (.slice none 0 0)), none, false⟩])
 (.seq (.seq (.region false [⟨(some 6), .move (.const (.int .i64 0)), none, false⟩])
 (.block 0 (.loop ac22_L1)))
 (.seq (.region false [⟨(some 37), .move (.tmp 5), none, false⟩,
 ⟨(some 4), .move (.tmp 37), none, false⟩])
 (.ret)))))
theorem text22 : FnText Try.prog 22 [] 38 2 ac22 [(4, none)] :=
 ⟨Try.call22, follows, Try.f22, _, Try.func22, rfl, rfl, by decide, by kernel_rfl, by kernel_rfl⟩


/-- patchbay/patchbayref01.PrefixMask -/
def ac94 : AC :=
 .seq (.region false [⟨(some 4), .move (.const (.int .u32 0)), none, false⟩])
 (.seq (.seq (.region false [⟨(some 5), .move (.tmp 1), none, false⟩,
 ⟨(some 6), .call (.func 60) [(.tmp 5)], none, false⟩,
 ⟨(some 7), .un .not (.tmp 6), none, false⟩])
 (.cond (.tmp 7)
 (.seq (.region false [⟨(some 4), .move (.const (.int .u32 0)), none, false⟩])
 (.ret))
 (.skip)))
 (.seq (.region false [⟨(some 8), .move (.tmp 0), none, false⟩,
 ⟨(some 9), .bi .max [3, 3].toArray 3 [(.tmp 8), (.const (.int .i64 0))], none, false⟩,
 ⟨(some 10), .move (.tmp 1), none, false⟩,
 ⟨(some 11), .bi .min [3, 3].toArray 3 [(.tmp 9), (.tmp 10)], none, false⟩,
 ⟨(some 0), .move (.tmp 11), none, false⟩])
 (.seq (.region false [⟨(some 12), .move (.tmp 1), none, false⟩,
 ⟨(some 13), .call (.func 61) [(.tmp 12)], none, false⟩,
 ⟨(some 14), .move (.tmp 1), none, false⟩,
 ⟨(some 15), .move (.tmp 0), none, false⟩,
 ⟨(some 16), .bin .sub 3 (.tmp 14) (.tmp 15), none, false⟩,
 ⟨(some 17), .call (.func 61) [(.tmp 16)], none, false⟩,
 ⟨(some 18), .bin .sub 106 (.tmp 13) (.tmp 17), none, false⟩,
 ⟨(some 19), .conv 106 57 (.tmp 18), none, false⟩,
 ⟨(some 4), .move (.tmp 19), none, false⟩])
 (.ret))))
theorem text94 : FnText Try.prog 94 [] 20 2 ac94 [(4, none)] :=
 ⟨Try.call94, follows, Try.f94, _, Try.func94, rfl, rfl, by decide, by kernel_rfl, by kernel_rfl⟩

def ac85_G1 : List AOper :=
 [⟨(some 11), .move (.tmp 1), (some (10, true)), false⟩,
 ⟨(some 12), .call (.func 60) [(.tmp 11)], (some (10, true)), false⟩,
 ⟨(some 13), .pick (.tmp 10) (.tmp 12) (.const (.bool false)), none, false⟩]
def ac85_L1 : AC :=
 .seq (.seq (.region false (⟨(some 7), .move (.tmp 6), none, false⟩ :: ⟨(some 8), .move (.tmp 1), none, false⟩ :: ⟨(some 9), .bin .leq 3 (.tmp 7) (.tmp 8), none, false⟩ :: ⟨(some 10), .move (.tmp 9), none, false⟩ :: (ac85_G1 ++ [])))
 (.cond (.tmp 13)
 (.skip)
 (.exit 0)))
 (.seq (.block 1 (.seq (.region false [⟨(some 16), .move (.tmp 6), none, false⟩,
 ⟨(some 17), .move (.tmp 1), none, false⟩,
 ⟨(some 18), .call (.func 94) [(.tmp 16), (.tmp 17)], none, false⟩,
 ⟨(some 19), .move (.tmp 0), none, false⟩,
 ⟨(some 20), .bin .eql 57 (.tmp 18) (.tmp 19), none, false⟩])
 (.cond (.tmp 20)
 (.seq (.region false [⟨(some 21), .move (.tmp 6), none, false⟩,
 ⟨(some 4), .move (.tmp 21), none, false⟩,
 ⟨(some 5), .move (.const (.bool true)), none, false⟩])
 (.ret))
 (.skip))))
 (.region false [⟨(some 14), .move (.tmp 6), none, false⟩,
 ⟨(some 15), .bin .add 3 (.tmp 14) (.const (.int .i64 1)), none, false⟩,
 ⟨(some 6), .move (.tmp 15), none, false⟩]))
/-- patchbay/patchbayref01.PrefixLen -/
def ac85 : AC :=
 .seq (.region false [⟨(some 4), .move (.const (.int .i64 0)), none, false⟩,
 ⟨(some 5), .move (.const (.bool false)), none, false⟩])
 (.seq (.seq (.region false [⟨(some 6), .move (.const (.int .i64 0)), none, false⟩])
 (.block 0 (.loop ac85_L1)))
 (.seq (.region false [⟨(some 4), .move (.const (.int .i64 0)), none, false⟩,
 ⟨(some 5), .move (.const (.bool false)), none, false⟩])
 (.ret)))
theorem text85 : FnText Try.prog 85 [] 22 2 ac85 [(4, none), (5, none)] :=
 ⟨Try.call85, follows, Try.f85, _, Try.func85, rfl, rfl, by decide, by kernel_rfl, by kernel_rfl⟩


/-- patchbay/patchbayref01.Mask -/
def ac31 : AC :=
 .seq (.region false [⟨(some 2), .move (.const (.int .u32 0)), none, false⟩])
 (.seq (.seq (.region false [⟨(some 3), .move (.tmp 0), none, false⟩,
 ⟨(some 4), .call (.func 60) [(.tmp 3)], none, false⟩,
 ⟨(some 5), .un .not (.tmp 4), none, false⟩])
 (.cond (.tmp 5)
 (.seq (.region false [⟨(some 2), .move (.const (.int .u32 0)), none, false⟩])
 (.ret))
 (.skip)))
 (.seq (.region false [⟨(some 6), .move (.tmp 0), none, false⟩,
 ⟨(some 7), .call (.func 61) [(.tmp 6)], none, false⟩,
 ⟨(some 8), .bin .sub 106 (.tmp 7) (.const (.int .u64 1)), none, false⟩,
 ⟨(some 9), .conv 106 57 (.tmp 8), none, false⟩,
 ⟨(some 2), .move (.tmp 9), none, false⟩])
 (.ret)))
theorem text31 : FnText Try.prog 31 [] 10 1 ac31 [(2, none)] :=
 ⟨Try.call31, follows, Try.f31, _, Try.func31, rfl, rfl, by decide, by kernel_rfl, by kernel_rfl⟩

def ac65_G1 : List AOper :=
 [⟨(some 23), .faddr 1 1 false (.tmp 3), (some (22, false)), false⟩,
 ⟨(some 24), .load 1 false (.tmp 23), (some (22, false)), false⟩,
 ⟨(some 25), .move (.tmp 1), (some (22, false)), false⟩,
 ⟨(some 26), .call (.func 86) [(.tmp 24), (.tmp 25)], (some (22, false)), false⟩,
 ⟨(some 27), .un .not (.tmp 26), (some (22, false)), false⟩,
 ⟨(some 28), .pick (.tmp 22) (.const (.bool true)) (.tmp 27), none, false⟩]
def ac65_G2 : List AOper :=
 [⟨(some 42), .faddr 1 1 false (.tmp 3), (some (41, true)), false⟩,
 ⟨(some 43), .load 1 false (.tmp 42), (some (41, true)), false⟩,
 ⟨(some 44), .move (.tmp 1), (some (41, true)), false⟩,
 ⟨(some 45), .call (.func 31) [(.tmp 44)], (some (41, true)), false⟩,
 ⟨(some 46), .bin .neq 57 (.tmp 43) (.tmp 45), (some (41, true)), false⟩,
 ⟨(some 47), .pick (.tmp 41) (.tmp 46) (.const (.bool false)), none, false⟩]
def ac65_G4 : List AOper :=
 [⟨(some 52), .move (.tmp 8), (some (51, true)), false⟩,
 ⟨(some 53), .un .not (.tmp 52), (some (51, true)), false⟩,
 ⟨(some 54), .pick (.tmp 51) (.tmp 53) (.const (.bool false)), (some (48, false)), false⟩]
def ac65_G3 : List AOper :=
 (⟨(some 49), .move (.tmp 2), (some (48, false)), false⟩ :: ⟨(some 50), .bin .eql 3 (.tmp 49) (.const (.int .i64 2)), (some (48, false)), false⟩ :: ⟨(some 51), .move (.tmp 50), (some (48, false)), false⟩ :: (ac65_G4 ++ [⟨(some 55), .pick (.tmp 48) (.const (.bool true)) (.tmp 54), none, false⟩]))
/-- patchbay/patchbayref23.checkKey -/
def ac65 : AC :=
 .seq (.region false [⟨(some 3), .box false 85 (.tmp 0), none, false⟩,
 ⟨(some 6), .move (.const (.int .i64 0)), none, false⟩])
 (.seq (.region false [⟨(some 10), .faddr 1 1 false (.tmp 3), none, false⟩,
 ⟨(some 11), .load 1 false (.tmp 10), none, false⟩,
 ⟨(some 12), .move (.tmp 1), none, false⟩,
 ⟨(some 13), .call (.func 85) [(.tmp 11), (.tmp 12)], none, false⟩,
 ⟨(some 9), .move (.tmp 13), none, false⟩,
 ⟨(some 14), .extract (.tmp 9) 0, none, false⟩,
 ⟨(some 15), .extract (.tmp 9) 1, none, false⟩,
 ⟨(some 7), .move (.tmp 14), none, false⟩,
 ⟨(some 8), .move (.tmp 15), none, false⟩])
 (.seq (.block 0 (.seq (.region false (⟨(some 17), .faddr 0 1 false (.tmp 3), none, false⟩ :: ⟨(some 18), .load 1 false (.tmp 17), none, false⟩ :: ⟨(some 19), .move (.tmp 1), none, false⟩ :: ⟨(some 20), .call (.func 86) [(.tmp 18), (.tmp 19)], none, false⟩ :: ⟨(some 21), .un .not (.tmp 20), none, false⟩ :: ⟨(some 22), .move (.tmp 21), none, false⟩ :: (ac65_G1 ++ [⟨(some 16), .move (.tmp 28), none, false⟩])))
 (.cond (.tmp 16)
 (.seq (.region false [⟨(some 6), .move (.const (.int .i64 9)), none, false⟩])
 (.ret))
 (.seq (.region false [⟨(some 30), .faddr 0 1 false (.tmp 3), none, false⟩,
 ⟨(some 31), .load 1 false (.tmp 30), none, false⟩,
 ⟨(some 32), .faddr 1 1 false (.tmp 3), none, false⟩,
 ⟨(some 33), .load 1 false (.tmp 32), none, false⟩,
 ⟨(some 34), .bin .and 57 (.tmp 31) (.tmp 33), none, false⟩,
 ⟨(some 35), .faddr 0 1 false (.tmp 3), none, false⟩,
 ⟨(some 36), .load 1 false (.tmp 35), none, false⟩,
 ⟨(some 37), .bin .neq 57 (.tmp 34) (.tmp 36), none, false⟩,
 ⟨(some 29), .move (.tmp 37), none, false⟩])
 (.cond (.tmp 29)
 (.seq (.region false [⟨(some 6), .move (.const (.int .i64 5)), none, false⟩])
 (.ret))
 (.seq (.region true (⟨(some 39), .move (.tmp 2), none, false⟩ :: ⟨(some 40), .bin .eql 3 (.tmp 39) (.const (.int .i64 1)), none, false⟩ :: ⟨(some 41), .move (.tmp 40), none, false⟩ :: (ac65_G2 ++ (⟨(some 48), .move (.tmp 47), none, false⟩ :: (ac65_G3 ++ [⟨(some 38), .move (.tmp 55), none, false⟩])))))
 (.cond (.tmp 38)
 (.seq (.region false [⟨(some 6), .move (.const (.int .i64 11)), none, false⟩])
 (.ret))
 (.skip))))))))
 (.seq (.region false [⟨(some 6), .move (.const (.int .i64 0)), none, false⟩])
 (.ret))))
theorem text65 : FnText Try.prog 65 [] 56 3 ac65 [(6, none)] :=
 ⟨Try.call65, follows, Try.f65, _, Try.func65, rfl, rfl, by decide, by kernel_rfl, by kernel_rfl⟩

def ac19_L1 : AC :=
 .seq (.seq (.region false [⟨(some 11), .move (.tmp 6), none, false⟩,
 ⟨(some 12), .faddr 5 1 false (.tmp 2), none, false⟩,
 ⟨(some 13), .load 1 false (.tmp 12), none, false⟩,
 ⟨(some 14), .move (.tmp 1), none, false⟩,
 ⟨(some 15), .iaddr 6 (.tmp 13) (.tmp 14), none, false⟩,
 ⟨(some 16), .faddr 1 1 false (.tmp 15), none, false⟩,
 ⟨(some 17), .load 1 false (.tmp 16), none, false⟩,
 ⟨(some 18), .bi .len [52].toArray 3 [(.tmp 17)], none, false⟩,
 ⟨(some 19), .bin .lss 3 (.tmp 11) (.tmp 18), none, false⟩])
 (.cond (.tmp 19)
 (.skip)
 (.exit 0)))
 (.seq (.block 1 (.region false [⟨(some 22), .move (.tmp 5), none, false⟩,
 ⟨(some 23), .faddr 5 1 false (.tmp 2), none, false⟩,
 ⟨(some 24), .load 1 false (.tmp 23), none, false⟩,
 ⟨(some 25), .move (.tmp 1), none, false⟩,
 ⟨(some 26), .iaddr 6 (.tmp 24) (.tmp 25), none, false⟩,
 ⟨(some 27), .faddr 1 1 false (.tmp 26), none, false⟩,
 ⟨(some 28), .load 1 false (.tmp 27), none, false⟩,
 ⟨(some 29), .move (.tmp 6), none, false⟩,
 ⟨(some 30), .iaddr 3 (.tmp 28) (.tmp 29), none, false⟩,
 ⟨(some 31), .faddr 2 1 false (.tmp 30), none, false⟩,
 ⟨(some 32), .load 1 false (.tmp 31), none, false⟩,
 ⟨(some 33), .bi .max [3, 3].toArray 3 [(.tmp 22), (.tmp 32)], none, false⟩,
 ⟨(some 5), .move (.tmp 33), none, false⟩]))
 (.region false [⟨(some 20), .move (.tmp 6), none, false⟩,
 ⟨(some 21), .bin .add 3 (.tmp 20) (.const (.int .i64 1)), none, false⟩,
 ⟨(some 6), .move (.tmp 21), none, false⟩]))
/-- patchbay/patchbayref17.Kind -/
def ac19 : AC :=
 .seq (.region false [⟨(some 2), .box false 31 (.tmp 0), none, false⟩,
 ⟨(some 4), .move (.const (.int .i64 0)), none, false⟩])
 (.seq (.seq (.region false [⟨(some 7), .load 9 true (.tmp 2), none, false⟩,
 ⟨(some 8), .move (.tmp 1), none, false⟩,
 ⟨(some 9), .call (.func 53) [(.tmp 7), (.tmp 8)], none, false⟩,
 ⟨(some 10), .un .not (.tmp 9), none, false⟩])
 (.cond (.tmp 10)
 (.seq (.region false [⟨(some 4), .move (.const (.int .i64 0)), none, false⟩])
 (.ret))
 (.skip)))
 (.seq (.region false [⟨(some 5), .move (.const (.int .i64 1)), none, false⟩])
 (.seq (.seq (.region false [⟨(some 6), .move (.const (.int .i64 0)), none, false⟩])
 (.block 0 (.loop ac19_L1)))
 (.seq (.region false [⟨(some 34), .move (.tmp 5), none, false⟩,
 ⟨(some 4), .move (.tmp 34), none, false⟩])
 (.ret)))))
theorem text19 : FnText Try.prog 19 [] 35 2 ac19 [(4, none)] :=
 ⟨Try.call19, follows, Try.f19, _, Try.func19, rfl, rfl, by decide, by kernel_rfl, by kernel_rfl⟩

def ac26_G1 : List AOper :=
 [⟨(some 11), .faddr 5 1 false (.tmp 3), (some (10, true)), false⟩,
 ⟨(some 12), .load 1 false (.tmp 11), (some (10, true)), false⟩,
 ⟨(some 13), .move (.tmp 1), (some (10, true)), false⟩,
 ⟨(some 14), .iaddr 6 (.tmp 12) (.tmp 13), (some (10, true)), false⟩,
 ⟨(some 15), .faddr 2 1 false (.tmp 14), (some (10, true)), false⟩,
 ⟨(some 16), .load 1 false (.tmp 15), (some (10, true)), false⟩,
 ⟨(some 17), .move (.tmp 2), (some (10, true)), false⟩,
 ⟨(some 18), .call (.func 56) [(.tmp 16), (.tmp 17)], (some (10, true)), false⟩,
 ⟨(some 19), .bin .geq 3 (.tmp 18) (.const (.int .i64 0)), (some (10, true)), false⟩,
 ⟨(some 20), .pick (.tmp 10) (.tmp 19) (.const (.bool false)), none, false⟩]
/-- patchbay/patchbayref17.Allows -/
def ac26 : AC :=
 .seq (.region false [⟨(some 3), .box false 31 (.tmp 0), none, false⟩,
 ⟨(some 6), .move (.const (.bool false)), none, false⟩])
 (.seq (.region false (⟨(some 7), .load 9 true (.tmp 3), none, false⟩ :: ⟨(some 8), .move (.tmp 1), none, false⟩ :: ⟨(some 9), .call (.func 53) [(.tmp 7), (.tmp 8)], none, false⟩ :: ⟨(some 10), .move (.tmp 9), none, false⟩ :: (ac26_G1 ++ [⟨(some 6), .move (.tmp 20), none, false⟩])))
 (.ret))
theorem text26 : FnText Try.prog 26 [] 21 3 ac26 [(6, none)] :=
 ⟨Try.call26, follows, Try.f26, _, Try.func26, rfl, rfl, by decide, by kernel_rfl, by kernel_rfl⟩

def ac35_L1 : AC :=
 .seq (.seq (.region false [⟨(some 29), .move (.tmp 10), none, false⟩,
 ⟨(some 30), .move (.tmp 9), none, false⟩,
 ⟨(some 31), .bi .len [29].toArray 3 [(.tmp 30)], none, false⟩,
 ⟨(some 32), .bin .lss 3 (.tmp 29) (.tmp 31), none, false⟩])
 (.cond (.tmp 32)
 (.skip)
 (.exit 0)))
 (.seq (.block 1 (.seq (.region true [⟨(some 35), .faddr 0 1 false (.tmp 5), none, false⟩,
 ⟨(some 36), .load 1 false (.tmp 35), none, false⟩,
 ⟨(some 37), .move (.tmp 10), none, false⟩,
 ⟨(some 38), .iaddr 2 (.tmp 36) (.tmp 37), none, false⟩,
 ⟨(some 39), .load 2 true (.tmp 38), none, false⟩,
 ⟨(some 40), .move (.tmp 9), none, false⟩,
 ⟨(some 41), .move (.tmp 10), none, false⟩,
 ⟨(some 42), .iaddr 1 (.tmp 40) (.tmp 41), none, false⟩,
 ⟨(some 43), .load 1 false (.tmp 42), none, false⟩,
 ⟨(some 44), .faddr 5 1 false (.tmp 3), none, false⟩,
 ⟨(some 45), .load 1 false (.tmp 44), none, false⟩,
 ⟨(some 46), .move (.tmp 1), none, false⟩,
 ⟨(some 47), .iaddr 6 (.tmp 45) (.tmp 46), none, false⟩,
 ⟨(some 48), .faddr 1 1 false (.tmp 47), none, false⟩,
 ⟨(some 49), .load 1 false (.tmp 48), none, false⟩,
 ⟨(some 50), .move (.tmp 10), none, false⟩,
 ⟨(some 51), .iaddr 3 (.tmp 49) (.tmp 50), none, false⟩,
 ⟨(some 52), .faddr 2 1 false (.tmp 51), none, false⟩,
 ⟨(some 53), .load 1 false (.tmp 52), none, false⟩,
 ⟨(some 54), .call (.func 65) [(.tmp 39), (.tmp 43), (.tmp 53)], none, false⟩,
 ⟨(some 8), .move (.tmp 54), none, false⟩])
 (.seq (.region false [⟨(some 55), .move (.tmp 8), none, false⟩,
 ⟨(some 56), .bin .neq 34 (.tmp 55) (.const (.int .i64 0)), none, false⟩])
 (.cond (.tmp 56)
 (.seq (.region false [⟨(some 57), .move (.tmp 8), none, false⟩,
 ⟨(some 6), .move (.tmp 57), none, false⟩])
 (.ret))
 (.skip)))))
 (.region false [⟨(some 33), .move (.tmp 10), none, false⟩,
 ⟨(some 34), .bin .add 3 (.tmp 33) (.const (.int .i64 1)), none, false⟩,
 ⟨(some 10), .move (.tmp 34), none, false⟩]))
def ac35_G1 : List AOper :=
 [⟨(some 63), .faddr 1 1 false (.tmp 5), (some (62, false)), false⟩,
 ⟨(some 64), .load 1 false (.tmp 63), (some (62, false)), false⟩,
 ⟨(some 65), .bin .gtr 3 (.tmp 64) (.const (.int .i64 255)), (some (62, false)), false⟩,
 ⟨(some 66), .pick (.tmp 62) (.const (.bool true)) (.tmp 65), none, false⟩]
def ac35_G2 : List AOper :=
 [⟨(some 72), .load 9 true (.tmp 3), (some (71, true)), false⟩,
 ⟨(some 73), .move (.tmp 1), (some (71, true)), false⟩,
 ⟨(some 74), .call (.func 19) [(.tmp 72), (.tmp 73)], (some (71, true)), false⟩,
 ⟨(some 75), .bin .neq 3 (.tmp 74) (.const (.int .i64 3)), (some (71, true)), false⟩,
 ⟨(some 76), .pick (.tmp 71) (.tmp 75) (.const (.bool false)), none, false⟩]
/-- patchbay/patchbayref23.Check -/
def ac35 : AC :=
 .seq (.region false [⟨(some 3), .box false 31 (.tmp 0), none, false⟩,
 ⟨(some 5), .box false 69 (.tmp 2), none, false⟩,
 ⟨(some 6), .move (.const (.int .i64 0)), none, false⟩])
 (.seq (.region false [⟨(some 12), .load 9 true (.tmp 3), none, false⟩,
 ⟨(some 13), .move (.tmp 1), none, false⟩,
 ⟨(some 14), .call (.func 17) [(.tmp 12), (.tmp 13)], none, false⟩,
 ⟨(some 11), .move (.tmp 14), none, false⟩,
 ⟨(some 15), .extract (.tmp 11) 0, none, false⟩,
 ⟨(some 16), .extract (.tmp 11) 1, none, false⟩,
 ⟨(some 7), .move (.tmp 15), none, false⟩,
 ⟨(some 8), .move (.tmp 16), none, false⟩])
 (.seq (.seq (.region false [⟨(some 17), .move (.tmp 8), none, false⟩,
 ⟨(some 18), .bin .neq 34 (.tmp 17) (.const (.int .i64 0)), none, false⟩])
 (.cond (.tmp 18)
 (.seq (.region false [⟨(some 19), .move (.tmp 8), none, false⟩,
 ⟨(some 6), .move (.tmp 19), none, false⟩])
 (.ret))
 (.skip)))
 (.seq (.region false [⟨(some 20), .load 9 true (.tmp 3), none, false⟩,
 ⟨(some 21), .move (.tmp 1), none, false⟩,
 ⟨(some 22), .call (.func 22) [(.tmp 20), (.tmp 21)], none, false⟩,
 ⟨(some 9), .move (.tmp 22), none, false⟩])
 (.seq (.seq (.region false [⟨(some 23), .faddr 0 1 false (.tmp 5), none, false⟩,
 ⟨(some 24), .load 1 false (.tmp 23), none, false⟩,
 ⟨(some 25), .bi .len [67].toArray 3 [(.tmp 24)], none, false⟩,
 ⟨(some 26), .move (.tmp 9), none, false⟩,
 ⟨(some 27), .bi .len [29].toArray 3 [(.tmp 26)], none, false⟩,
 ⟨(some 28), .bin .neq 3 (.tmp 25) (.tmp 27), none, false⟩])
 (.cond (.tmp 28)
 (.seq (.region false [⟨(some 6), .move (.const (.int .i64 2)), none, false⟩])
 (.ret))
 (.skip)))
 (.seq (.seq (.region false [⟨(some 10), .move (.const (.int .i64 0)), none, false⟩])
 (.block 0 (.loop ac35_L1)))
 (.seq (.block 2 (.seq (.region false (⟨(some 59), .faddr 1 1 false (.tmp 5), none, false⟩ :: ⟨(some 60), .load 1 false (.tmp 59), none, false⟩ :: ⟨(some 61), .bin .lss 3 (.tmp 60) (.const (.int .i64 0)), none, false⟩ :: ⟨(some 62), .move (.tmp 61), none, false⟩ :: (ac35_G1 ++ [⟨(some 58), .move (.tmp 66), none, false⟩])))
 (.cond (.tmp 58)
 (.seq (.region false [⟨(some 6), .move (.const (.int .i64 9)), none, false⟩])
 (.ret))
 (.seq (.region false (⟨(some 68), .faddr 1 1 false (.tmp 5), none, false⟩ :: ⟨(some 69), .load 1 false (.tmp 68), none, false⟩ :: ⟨(some 70), .bin .gtr 3 (.tmp 69) (.const (.int .i64 0)), none, false⟩ :: ⟨(some 71), .move (.tmp 70), none, false⟩ :: (ac35_G2 ++ [⟨(some 67), .move (.tmp 76), none, false⟩])))
 (.cond (.tmp 67)
 (.seq (.region false [⟨(some 6), .move (.const (.int .i64 11)), none, false⟩])
 (.ret))
 (.seq (.region false [⟨(some 78), .load 9 true (.tmp 3), none, false⟩,
 ⟨(some 79), .move (.tmp 1), none, false⟩,
 ⟨(some 80), .faddr 2 2 true (.tmp 5), none, false⟩,
 ⟨(some 81), .faddr 0 1 false (.tmp 80), none, false⟩,
 ⟨(some 82), .load 1 false (.tmp 81), none, false⟩,
 ⟨(some 83), .call (.func 26) [(.tmp 78), (.tmp 79), (.tmp 82)], none, false⟩,
 ⟨(some 84), .un .not (.tmp 83), none, false⟩,
 ⟨(some 77), .move (.tmp 84), none, false⟩])
 (.cond (.tmp 77)
 (.seq (.region false [⟨(some 6), .move (.const (.int .i64 8)), none, false⟩])
 (.ret))
 (.skip))))))))
 (.seq (.region false [⟨(some 85), .load 9 true (.tmp 3), none, false⟩,
 ⟨(some 86), .faddr 2 2 true (.tmp 5), none, false⟩,
 ⟨(some 87), .load 2 true (.tmp 86), none, false⟩,
 ⟨(some 88), .call (.func 66) [(.tmp 85), (.tmp 87)], none, false⟩,
 ⟨(some 6), .move (.tmp 88), none, false⟩])
 (.ret))))))))
theorem text35 : FnText Try.prog 35 [] 89 3 ac35 [(6, none)] :=
 ⟨Try.call35, follows, Try.f35, _, Try.func35, rfl, rfl, by decide, by kernel_rfl, by kernel_rfl⟩

def ac8_G1 : List AOper :=
 [⟨(some 11), .load 4 true (.tmp 5), (some (10, false)), false⟩,
 ⟨(some 12), .call (.func 32) [(.tmp 11)], (some (10, false)), false⟩,
 ⟨(some 13), .un .not (.tmp 12), (some (10, false)), false⟩,
 ⟨(some 14), .pick (.tmp 10) (.const (.bool true)) (.tmp 13), none, false⟩]
def ac8_G2 : List AOper :=
 [⟨(some 26), .call (.func 33) [], (some (25, true)), false⟩,
 ⟨(some 27), .pick (.tmp 25) (.tmp 26) (.const (.bool false)), none, false⟩]
/-- patchbay/patchbaylaw23.EntryChecks -/
def ac8 : AC :=
 .seq (.region false [⟨(some 3), .box false 31 (.tmp 0), none, false⟩,
 ⟨(some 5), .box false 69 (.tmp 2), none, false⟩,
 ⟨(some 6), .move (.const (.bool false)), none, false⟩])
 (.seq (.seq (.region false (⟨(some 7), .load 9 true (.tmp 3), none, false⟩ :: ⟨(some 8), .call (.func 14) [(.tmp 7)], none, false⟩ :: ⟨(some 9), .un .not (.tmp 8), none, false⟩ :: ⟨(some 10), .move (.tmp 9), none, false⟩ :: (ac8_G1 ++ [])))
 (.cond (.tmp 14)
 (.seq (.region false [⟨(some 15), .call (.func 33) [], none, false⟩,
 ⟨(some 6), .move (.tmp 15), none, false⟩])
 (.ret))
 (.skip)))
 (.seq (.region true (⟨(some 16), .load 9 true (.tmp 3), none, false⟩ :: ⟨(some 17), .move (.tmp 1), none, false⟩ :: ⟨(some 18), .load 4 true (.tmp 5), none, false⟩ :: ⟨(some 19), .call (.func 34) [(.tmp 16), (.tmp 17), (.tmp 18)], none, false⟩ :: ⟨(some 20), .load 9 true (.tmp 3), none, false⟩ :: ⟨(some 21), .move (.tmp 1), none, false⟩ :: ⟨(some 22), .load 4 true (.tmp 5), none, false⟩ :: ⟨(some 23), .call (.func 35) [(.tmp 20), (.tmp 21), (.tmp 22)], none, false⟩ :: ⟨(some 24), .bin .eql 34 (.tmp 19) (.tmp 23), none, false⟩ :: ⟨(some 25), .move (.tmp 24), none, false⟩ :: (ac8_G2 ++ [⟨(some 6), .move (.tmp 27), none, false⟩])))
 (.ret)))
theorem text8 : FnText Try.prog 8 [] 28 3 ac8 [(6, none)] :=
 ⟨Try.call8, follows, Try.f8, _, Try.func8, rfl, rfl, by decide, by kernel_rfl, by kernel_rfl⟩

end Go.Proofs.Ytklfdkbemkommaa
