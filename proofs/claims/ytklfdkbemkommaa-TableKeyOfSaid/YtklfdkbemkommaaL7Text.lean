/-
 The text of each function of this seat, as the plain library tells it; each by the kernel's own reckoning from the program.
-/
import Derived.Test.YtklfdkbemkommaaPbWp
import Derived.Test.YtklfdkbemkommaaRows
set_option linter.unusedVariables false
set_option maxRecDepth 100000
namespace Go.Proofs.Ytklfdkbemkommaa
open Go Go.Pb
theorem follows : Try.prog.follows .mixedOrders = true := by kernel_rfl
def ac44_L1 : AC :=
 .seq (.seq (.region false [⟨(some 7), .move (.tmp 3), none, false⟩,
 ⟨(some 8), .move (.tmp 0), none, false⟩,
 ⟨(some 9), .bi .len [23].toArray 3 [(.tmp 8)], none, false⟩,
 ⟨(some 10), .bin .lss 3 (.tmp 7) (.tmp 9), none, false⟩])
 (.cond (.tmp 10)
 (.skip)
 (.exit 0)))
 (.seq (.block 1 (.seq (.region false [⟨(some 13), .move (.tmp 0), none, false⟩,
 ⟨(some 14), .move (.tmp 3), none, false⟩,
 ⟨(some 15), .iaddr 2 (.tmp 13) (.tmp 14), none, false⟩,
 ⟨(some 16), .faddr 0 1 false (.tmp 15), none, false⟩,
 ⟨(some 17), .load 1 false (.tmp 16), none, false⟩,
 ⟨(some 18), .bi .len [9].toArray 3 [(.tmp 17)], none, false⟩,
 ⟨(some 19), .bin .gtr 3 (.tmp 18) (.const (.int .i64 40)), none, false⟩])
 (.cond (.tmp 19)
 (.seq (.region false [⟨(some 2), .move (.const (.bool false)), none, false⟩])
 (.ret))
 (.skip))))
 (.region false [⟨(some 11), .move (.tmp 3), none, false⟩,
 ⟨(some 12), .bin .add 3 (.tmp 11) (.const (.int .i64 1)), none, false⟩,
 ⟨(some 3), .move (.tmp 12), none, false⟩]))
/-- patchbay/patchbaylaw17.fields -/
def ac44 : AC :=
 .seq (.region false [⟨(some 2), .move (.const (.bool false)), none, false⟩])
 (.seq (.seq (.region false [⟨(some 4), .move (.tmp 0), none, false⟩,
 ⟨(some 5), .bi .len [23].toArray 3 [(.tmp 4)], none, false⟩,
 ⟨(some 6), .bin .gtr 3 (.tmp 5) (.const (.int .i64 16)), none, false⟩])
 (.cond (.tmp 6)
 (.seq (.region false [⟨(some 2), .move (.const (.bool false)), none, false⟩])
 (.ret))
 (.skip)))
 (.seq (.seq (.region false [⟨(some 3), .move (.const (.int .i64 0)), none, false⟩])
 (.block 0 (.loop ac44_L1)))
 (.seq (.region false [⟨(some 2), .move (.const (.bool true)), none, false⟩])
 (.ret))))
theorem text44 : FnText Try.prog 44 [] 20 1 ac44 [(2, none)] :=
 ⟨Try.call44, follows, Try.f44, _, Try.func44, rfl, rfl, by decide, by kernel_rfl, by kernel_rfl⟩

def ac45_G1 : List AOper :=
 [⟨(some 9), .faddr 1 1 false (.tmp 1), (some (8, false)), false⟩,
 ⟨(some 10), .load 1 false (.tmp 9), (some (8, false)), false⟩,
 ⟨(some 11), .call (.func 44) [(.tmp 10)], (some (8, false)), false⟩,
 ⟨(some 12), .un .not (.tmp 11), (some (8, false)), false⟩,
 ⟨(some 13), .pick (.tmp 8) (.const (.bool true)) (.tmp 12), none, false⟩]
def ac45_G2 : List AOper :=
 [⟨(some 15), .faddr 2 1 false (.tmp 1), (some (14, false)), false⟩,
 ⟨(some 16), .load 1 false (.tmp 15), (some (14, false)), false⟩,
 ⟨(some 17), .bi .len [93].toArray 3 [(.tmp 16)], (some (14, false)), false⟩,
 ⟨(some 18), .bin .gtr 3 (.tmp 17) (.const (.int .i64 16)), (some (14, false)), false⟩,
 ⟨(some 19), .pick (.tmp 14) (.const (.bool true)) (.tmp 18), none, false⟩]
def ac45_G3 : List AOper :=
 [⟨(some 36), .faddr 2 1 false (.tmp 1), (some (35, false)), false⟩,
 ⟨(some 37), .load 1 false (.tmp 36), (some (35, false)), false⟩,
 ⟨(some 38), .move (.tmp 3), (some (35, false)), false⟩,
 ⟨(some 39), .iaddr 7 (.tmp 37) (.tmp 38), (some (35, false)), false⟩,
 ⟨(some 40), .faddr 6 1 false (.tmp 39), (some (35, false)), false⟩,
 ⟨(some 41), .load 1 false (.tmp 40), (some (35, false)), false⟩,
 ⟨(some 42), .bi .len [113].toArray 3 [(.tmp 41)], (some (35, false)), false⟩,
 ⟨(some 43), .bin .gtr 3 (.tmp 42) (.const (.int .i64 40)), (some (35, false)), false⟩,
 ⟨(some 44), .pick (.tmp 35) (.const (.bool true)) (.tmp 43), none, false⟩]
def ac45_L1 : AC :=
 .seq (.seq (.region false [⟨(some 20), .move (.tmp 3), none, false⟩,
 ⟨(some 21), .faddr 2 1 false (.tmp 1), none, false⟩,
 ⟨(some 22), .load 1 false (.tmp 21), none, false⟩,
 ⟨(some 23), .bi .len [93].toArray 3 [(.tmp 22)], none, false⟩,
 ⟨(some 24), .bin .lss 3 (.tmp 20) (.tmp 23), none, false⟩])
 (.cond (.tmp 24)
 (.skip)
 (.exit 0)))
 (.seq (.block 1 (.seq (.region false (⟨(some 27), .faddr 2 1 false (.tmp 1), none, false⟩ :: ⟨(some 28), .load 1 false (.tmp 27), none, false⟩ :: ⟨(some 29), .move (.tmp 3), none, false⟩ :: ⟨(some 30), .iaddr 7 (.tmp 28) (.tmp 29), none, false⟩ :: ⟨(some 31), .faddr 5 1 false (.tmp 30), none, false⟩ :: ⟨(some 32), .load 1 false (.tmp 31), none, false⟩ :: ⟨(some 33), .bi .len [113].toArray 3 [(.tmp 32)], none, false⟩ :: ⟨(some 34), .bin .gtr 3 (.tmp 33) (.const (.int .i64 40)), none, false⟩ :: ⟨(some 35), .move (.tmp 34), none, false⟩ :: (ac45_G3 ++ [])))
 (.cond (.tmp 44)
 (.seq (.region false [⟨(some 2), .move (.const (.bool false)), none, false⟩])
 (.ret))
 (.skip))))
 (.region false [⟨(some 25), .move (.tmp 3), none, false⟩,
 ⟨(some 26), .bin .add 3 (.tmp 25) (.const (.int .i64 1)), none, false⟩,
 ⟨(some 3), .move (.tmp 26), none, false⟩]))
/-- patchbay/patchbaylaw17.body -/
def ac45 : AC :=
 .seq (.region false [⟨(some 1), .box false 95 (.tmp 0), none, false⟩,
 ⟨(some 2), .move (.const (.bool false)), none, false⟩])
 (.seq (.seq (.region false (⟨(some 4), .faddr 0 1 false (.tmp 1), none, false⟩ :: ⟨(some 5), .load 1 false (.tmp 4), none, false⟩ :: ⟨(some 6), .bi .len [9].toArray 3 [(.tmp 5)], none, false⟩ :: ⟨(some 7), .bin .gtr 3 (.tmp 6) (.const (.int .i64 40)), none, false⟩ :: ⟨(some 8), .move (.tmp 7), none, false⟩ :: (ac45_G1 ++ (⟨(some 14), .move (.tmp 13), none, false⟩ :: (ac45_G2 ++ [])))))
 (.cond (.tmp 19)
 (.seq (.region false [⟨(some 2), .move (.const (.bool false)), none, false⟩])
 (.ret))
 (.skip)))
 (.seq (.seq (.region false [⟨(some 3), .move (.const (.int .i64 0)), none, false⟩])
 (.block 0 (.loop ac45_L1)))
 (.seq (.region false [⟨(some 2), .move (.const (.bool true)), none, false⟩])
 (.ret))))
theorem text45 : FnText Try.prog 45 [] 45 1 ac45 [(2, none)] :=
 ⟨Try.call45, follows, Try.f45, _, Try.func45, rfl, rfl, by decide, by kernel_rfl, by kernel_rfl⟩

def ac14_G1 : List AOper :=
 [⟨(some 14), .faddr 1 1 false (.tmp 1), (some (13, false)), false⟩,
 ⟨(some 15), .load 1 false (.tmp 14), (some (13, false)), false⟩,
 ⟨(some 16), .bi .len [22].toArray 3 [(.tmp 15)], (some (13, false)), false⟩,
 ⟨(some 17), .bin .gtr 3 (.tmp 16) (.const (.int .i64 12)), (some (13, false)), false⟩,
 ⟨(some 18), .pick (.tmp 13) (.const (.bool true)) (.tmp 17), none, false⟩]
def ac14_G2 : List AOper :=
 [⟨(some 20), .faddr 2 1 false (.tmp 1), (some (19, false)), false⟩,
 ⟨(some 21), .load 1 false (.tmp 20), (some (19, false)), false⟩,
 ⟨(some 22), .call (.func 44) [(.tmp 21)], (some (19, false)), false⟩,
 ⟨(some 23), .un .not (.tmp 22), (some (19, false)), false⟩,
 ⟨(some 24), .pick (.tmp 19) (.const (.bool true)) (.tmp 23), none, false⟩]
def ac14_G3 : List AOper :=
 [⟨(some 26), .faddr 3 1 false (.tmp 1), (some (25, false)), false⟩,
 ⟨(some 27), .load 1 false (.tmp 26), (some (25, false)), false⟩,
 ⟨(some 28), .bi .len [24].toArray 3 [(.tmp 27)], (some (25, false)), false⟩,
 ⟨(some 29), .bin .gtr 3 (.tmp 28) (.const (.int .i64 8)), (some (25, false)), false⟩,
 ⟨(some 30), .pick (.tmp 25) (.const (.bool true)) (.tmp 29), none, false⟩]
def ac14_G4 : List AOper :=
 [⟨(some 32), .faddr 4 1 false (.tmp 1), (some (31, false)), false⟩,
 ⟨(some 33), .load 1 false (.tmp 32), (some (31, false)), false⟩,
 ⟨(some 34), .bi .len [25].toArray 3 [(.tmp 33)], (some (31, false)), false⟩,
 ⟨(some 35), .bin .gtr 3 (.tmp 34) (.const (.int .i64 20)), (some (31, false)), false⟩,
 ⟨(some 36), .pick (.tmp 31) (.const (.bool true)) (.tmp 35), none, false⟩]
def ac14_G5 : List AOper :=
 [⟨(some 38), .faddr 5 1 false (.tmp 1), (some (37, false)), false⟩,
 ⟨(some 39), .load 1 false (.tmp 38), (some (37, false)), false⟩,
 ⟨(some 40), .bi .len [26].toArray 3 [(.tmp 39)], (some (37, false)), false⟩,
 ⟨(some 41), .bin .gtr 3 (.tmp 40) (.const (.int .i64 16)), (some (37, false)), false⟩,
 ⟨(some 42), .pick (.tmp 37) (.const (.bool true)) (.tmp 41), none, false⟩]
def ac14_G6 : List AOper :=
 [⟨(some 44), .faddr 6 1 false (.tmp 1), (some (43, false)), false⟩,
 ⟨(some 45), .load 1 false (.tmp 44), (some (43, false)), false⟩,
 ⟨(some 46), .bi .len [27].toArray 3 [(.tmp 45)], (some (43, false)), false⟩,
 ⟨(some 47), .bin .gtr 3 (.tmp 46) (.const (.int .i64 16)), (some (43, false)), false⟩,
 ⟨(some 48), .pick (.tmp 43) (.const (.bool true)) (.tmp 47), none, false⟩]
def ac14_G7 : List AOper :=
 [⟨(some 50), .faddr 8 1 false (.tmp 1), (some (49, false)), false⟩,
 ⟨(some 51), .load 1 false (.tmp 50), (some (49, false)), false⟩,
 ⟨(some 52), .bi .len [29].toArray 3 [(.tmp 51)], (some (49, false)), false⟩,
 ⟨(some 53), .bin .gtr 3 (.tmp 52) (.const (.int .i64 16)), (some (49, false)), false⟩,
 ⟨(some 54), .pick (.tmp 49) (.const (.bool true)) (.tmp 53), none, false⟩]
def ac14_G8 : List AOper :=
 [⟨(some 71), .faddr 1 1 false (.tmp 1), (some (70, false)), false⟩,
 ⟨(some 72), .load 1 false (.tmp 71), (some (70, false)), false⟩,
 ⟨(some 73), .move (.tmp 3), (some (70, false)), false⟩,
 ⟨(some 74), .iaddr 2 (.tmp 72) (.tmp 73), (some (70, false)), false⟩,
 ⟨(some 75), .faddr 1 1 false (.tmp 74), (some (70, false)), false⟩,
 ⟨(some 76), .load 1 false (.tmp 75), (some (70, false)), false⟩,
 ⟨(some 77), .call (.func 44) [(.tmp 76)], (some (70, false)), false⟩,
 ⟨(some 78), .un .not (.tmp 77), (some (70, false)), false⟩,
 ⟨(some 79), .pick (.tmp 70) (.const (.bool true)) (.tmp 78), none, false⟩]
def ac14_L1 : AC :=
 .seq (.seq (.region false [⟨(some 55), .move (.tmp 3), none, false⟩,
 ⟨(some 56), .faddr 1 1 false (.tmp 1), none, false⟩,
 ⟨(some 57), .load 1 false (.tmp 56), none, false⟩,
 ⟨(some 58), .bi .len [22].toArray 3 [(.tmp 57)], none, false⟩,
 ⟨(some 59), .bin .lss 3 (.tmp 55) (.tmp 58), none, false⟩])
 (.cond (.tmp 59)
 (.skip)
 (.exit 0)))
 (.seq (.block 1 (.seq (.region false (⟨(some 62), .faddr 1 1 false (.tmp 1), none, false⟩ :: ⟨(some 63), .load 1 false (.tmp 62), none, false⟩ :: ⟨(some 64), .move (.tmp 3), none, false⟩ :: ⟨(some 65), .iaddr 2 (.tmp 63) (.tmp 64), none, false⟩ :: ⟨(some 66), .faddr 0 1 false (.tmp 65), none, false⟩ :: ⟨(some 67), .load 1 false (.tmp 66), none, false⟩ :: ⟨(some 68), .bi .len [9].toArray 3 [(.tmp 67)], none, false⟩ :: ⟨(some 69), .bin .gtr 3 (.tmp 68) (.const (.int .i64 40)), none, false⟩ :: ⟨(some 70), .move (.tmp 69), none, false⟩ :: (ac14_G8 ++ [])))
 (.cond (.tmp 79)
 (.seq (.region false [⟨(some 2), .move (.const (.bool false)), none, false⟩])
 (.ret))
 (.skip))))
 (.region false [⟨(some 60), .move (.tmp 3), none, false⟩,
 ⟨(some 61), .bin .add 3 (.tmp 60) (.const (.int .i64 1)), none, false⟩,
 ⟨(some 3), .move (.tmp 61), none, false⟩]))
def ac14_L2 : AC :=
 .seq (.seq (.region false [⟨(some 80), .move (.tmp 4), none, false⟩,
 ⟨(some 81), .faddr 3 1 false (.tmp 1), none, false⟩,
 ⟨(some 82), .load 1 false (.tmp 81), none, false⟩,
 ⟨(some 83), .bi .len [24].toArray 3 [(.tmp 82)], none, false⟩,
 ⟨(some 84), .bin .lss 3 (.tmp 80) (.tmp 83), none, false⟩])
 (.cond (.tmp 84)
 (.skip)
 (.exit 2)))
 (.seq (.block 3 (.seq (.region false [⟨(some 87), .faddr 3 1 false (.tmp 1), none, false⟩,
 ⟨(some 88), .load 1 false (.tmp 87), none, false⟩,
 ⟨(some 89), .move (.tmp 4), none, false⟩,
 ⟨(some 90), .iaddr 3 (.tmp 88) (.tmp 89), none, false⟩,
 ⟨(some 91), .faddr 0 1 false (.tmp 90), none, false⟩,
 ⟨(some 92), .load 1 false (.tmp 91), none, false⟩,
 ⟨(some 93), .bi .len [9].toArray 3 [(.tmp 92)], none, false⟩,
 ⟨(some 94), .bin .gtr 3 (.tmp 93) (.const (.int .i64 40)), none, false⟩])
 (.cond (.tmp 94)
 (.seq (.region false [⟨(some 2), .move (.const (.bool false)), none, false⟩])
 (.ret))
 (.skip))))
 (.region false [⟨(some 85), .move (.tmp 4), none, false⟩,
 ⟨(some 86), .bin .add 3 (.tmp 85) (.const (.int .i64 1)), none, false⟩,
 ⟨(some 4), .move (.tmp 86), none, false⟩]))
def ac14_L3 : AC :=
 .seq (.seq (.region false [⟨(some 95), .move (.tmp 5), none, false⟩,
 ⟨(some 96), .faddr 4 1 false (.tmp 1), none, false⟩,
 ⟨(some 97), .load 1 false (.tmp 96), none, false⟩,
 ⟨(some 98), .bi .len [25].toArray 3 [(.tmp 97)], none, false⟩,
 ⟨(some 99), .bin .lss 3 (.tmp 95) (.tmp 98), none, false⟩])
 (.cond (.tmp 99)
 (.skip)
 (.exit 4)))
 (.seq (.block 5 (.seq (.region false [⟨(some 102), .faddr 4 1 false (.tmp 1), none, false⟩,
 ⟨(some 103), .load 1 false (.tmp 102), none, false⟩,
 ⟨(some 104), .move (.tmp 5), none, false⟩,
 ⟨(some 105), .iaddr 3 (.tmp 103) (.tmp 104), none, false⟩,
 ⟨(some 106), .load 3 true (.tmp 105), none, false⟩,
 ⟨(some 107), .call (.func 45) [(.tmp 106)], none, false⟩,
 ⟨(some 108), .un .not (.tmp 107), none, false⟩])
 (.cond (.tmp 108)
 (.seq (.region false [⟨(some 2), .move (.const (.bool false)), none, false⟩])
 (.ret))
 (.skip))))
 (.region false [⟨(some 100), .move (.tmp 5), none, false⟩,
 ⟨(some 101), .bin .add 3 (.tmp 100) (.const (.int .i64 1)), none, false⟩,
 ⟨(some 5), .move (.tmp 101), none, false⟩]))
def ac14_G9 : List AOper :=
 [⟨(some 126), .faddr 1 1 false (.tmp 7), (some (125, false)), false⟩,
 ⟨(some 127), .load 1 false (.tmp 126), (some (125, false)), false⟩,
 ⟨(some 128), .bi .len [52].toArray 3 [(.tmp 127)], (some (125, false)), false⟩,
 ⟨(some 129), .bin .gtr 3 (.tmp 128) (.const (.int .i64 10)), (some (125, false)), false⟩,
 ⟨(some 130), .pick (.tmp 125) (.const (.bool true)) (.tmp 129), none, false⟩]
def ac14_G10 : List AOper :=
 [⟨(some 132), .faddr 2 1 false (.tmp 7), (some (131, false)), false⟩,
 ⟨(some 133), .load 1 false (.tmp 132), (some (131, false)), false⟩,
 ⟨(some 134), .bi .len [29].toArray 3 [(.tmp 133)], (some (131, false)), false⟩,
 ⟨(some 135), .bin .gtr 3 (.tmp 134) (.const (.int .i64 24)), (some (131, false)), false⟩,
 ⟨(some 136), .pick (.tmp 131) (.const (.bool true)) (.tmp 135), none, false⟩]
def ac14_G11 : List AOper :=
 [⟨(some 138), .faddr 3 2 true (.tmp 7), (some (137, false)), false⟩,
 ⟨(some 139), .faddr 1 1 false (.tmp 138), (some (137, false)), false⟩,
 ⟨(some 140), .load 1 false (.tmp 139), (some (137, false)), false⟩,
 ⟨(some 141), .bi .len [44].toArray 3 [(.tmp 140)], (some (137, false)), false⟩,
 ⟨(some 142), .bin .gtr 3 (.tmp 141) (.const (.int .i64 10)), (some (137, false)), false⟩,
 ⟨(some 143), .pick (.tmp 137) (.const (.bool true)) (.tmp 142), none, false⟩]
def ac14_L4 : AC :=
 .seq (.seq (.region false [⟨(some 109), .move (.tmp 6), none, false⟩,
 ⟨(some 110), .faddr 5 1 false (.tmp 1), none, false⟩,
 ⟨(some 111), .load 1 false (.tmp 110), none, false⟩,
 ⟨(some 112), .bi .len [26].toArray 3 [(.tmp 111)], none, false⟩,
 ⟨(some 113), .bin .lss 3 (.tmp 109) (.tmp 112), none, false⟩])
 (.cond (.tmp 113)
 (.skip)
 (.exit 6)))
 (.seq (.block 7 (.seq (.region false [⟨(some 116), .faddr 5 1 false (.tmp 1), none, false⟩,
 ⟨(some 117), .load 1 false (.tmp 116), none, false⟩,
 ⟨(some 118), .move (.tmp 6), none, false⟩,
 ⟨(some 119), .iaddr 6 (.tmp 117) (.tmp 118), none, false⟩,
 ⟨(some 120), .load 6 true (.tmp 119), none, false⟩,
 ⟨(some 7), .alloc true 56 (.agg [(.string ⟨[].toArray⟩), (.slice none 0 0), (.slice none 0 0), (.int .i64 0), (.slice none 0 0), (.int .i64 0)].toArray), none, false⟩,
 ⟨none, .store 6 (.tmp 7) (.tmp 120), none, false⟩])
 (.seq (.region false (⟨(some 121), .faddr 0 1 false (.tmp 7), none, false⟩ :: ⟨(some 122), .load 1 false (.tmp 121), none, false⟩ :: ⟨(some 123), .bi .len [9].toArray 3 [(.tmp 122)], none, false⟩ :: ⟨(some 124), .bin .gtr 3 (.tmp 123) (.const (.int .i64 40)), none, false⟩ :: ⟨(some 125), .move (.tmp 124), none, false⟩ :: (ac14_G9 ++ (⟨(some 131), .move (.tmp 130), none, false⟩ :: (ac14_G10 ++ (⟨(some 137), .move (.tmp 136), none, false⟩ :: (ac14_G11 ++ [])))))))
 (.cond (.tmp 143)
 (.seq (.region false [⟨(some 2), .move (.const (.bool false)), none, false⟩])
 (.ret))
 (.skip)))))
 (.region false [⟨(some 114), .move (.tmp 6), none, false⟩,
 ⟨(some 115), .bin .add 3 (.tmp 114) (.const (.int .i64 1)), none, false⟩,
 ⟨(some 6), .move (.tmp 115), none, false⟩]))
def ac14_G12 : List AOper :=
 [⟨(some 160), .faddr 6 1 false (.tmp 1), (some (159, false)), false⟩,
 ⟨(some 161), .load 1 false (.tmp 160), (some (159, false)), false⟩,
 ⟨(some 162), .move (.tmp 8), (some (159, false)), false⟩,
 ⟨(some 163), .iaddr 7 (.tmp 161) (.tmp 162), (some (159, false)), false⟩,
 ⟨(some 164), .faddr 1 1 false (.tmp 163), (some (159, false)), false⟩,
 ⟨(some 165), .load 1 false (.tmp 164), (some (159, false)), false⟩,
 ⟨(some 166), .bi .len [29].toArray 3 [(.tmp 165)], (some (159, false)), false⟩,
 ⟨(some 167), .bin .gtr 3 (.tmp 166) (.const (.int .i64 8)), (some (159, false)), false⟩,
 ⟨(some 168), .pick (.tmp 159) (.const (.bool true)) (.tmp 167), none, false⟩]
def ac14_G13 : List AOper :=
 [⟨(some 170), .faddr 6 1 false (.tmp 1), (some (169, false)), false⟩,
 ⟨(some 171), .load 1 false (.tmp 170), (some (169, false)), false⟩,
 ⟨(some 172), .move (.tmp 8), (some (169, false)), false⟩,
 ⟨(some 173), .iaddr 7 (.tmp 171) (.tmp 172), (some (169, false)), false⟩,
 ⟨(some 174), .faddr 5 1 false (.tmp 173), (some (169, false)), false⟩,
 ⟨(some 175), .load 1 false (.tmp 174), (some (169, false)), false⟩,
 ⟨(some 176), .bi .len [96].toArray 3 [(.tmp 175)], (some (169, false)), false⟩,
 ⟨(some 177), .bin .gtr 3 (.tmp 176) (.const (.int .i64 16)), (some (169, false)), false⟩,
 ⟨(some 178), .pick (.tmp 169) (.const (.bool true)) (.tmp 177), none, false⟩]
def ac14_L5 : AC :=
 .seq (.seq (.region false [⟨(some 144), .move (.tmp 8), none, false⟩,
 ⟨(some 145), .faddr 6 1 false (.tmp 1), none, false⟩,
 ⟨(some 146), .load 1 false (.tmp 145), none, false⟩,
 ⟨(some 147), .bi .len [27].toArray 3 [(.tmp 146)], none, false⟩,
 ⟨(some 148), .bin .lss 3 (.tmp 144) (.tmp 147), none, false⟩])
 (.cond (.tmp 148)
 (.skip)
 (.exit 8)))
 (.seq (.block 9 (.seq (.region false (⟨(some 151), .faddr 6 1 false (.tmp 1), none, false⟩ :: ⟨(some 152), .load 1 false (.tmp 151), none, false⟩ :: ⟨(some 153), .move (.tmp 8), none, false⟩ :: ⟨(some 154), .iaddr 7 (.tmp 152) (.tmp 153), none, false⟩ :: ⟨(some 155), .faddr 0 1 false (.tmp 154), none, false⟩ :: ⟨(some 156), .load 1 false (.tmp 155), none, false⟩ :: ⟨(some 157), .bi .len [9].toArray 3 [(.tmp 156)], none, false⟩ :: ⟨(some 158), .bin .gtr 3 (.tmp 157) (.const (.int .i64 40)), none, false⟩ :: ⟨(some 159), .move (.tmp 158), none, false⟩ :: (ac14_G12 ++ (⟨(some 169), .move (.tmp 168), none, false⟩ :: (ac14_G13 ++ [])))))
 (.cond (.tmp 178)
 (.seq (.region false [⟨(some 2), .move (.const (.bool false)), none, false⟩])
 (.ret))
 (.skip))))
 (.region false [⟨(some 149), .move (.tmp 8), none, false⟩,
 ⟨(some 150), .bin .add 3 (.tmp 149) (.const (.int .i64 1)), none, false⟩,
 ⟨(some 8), .move (.tmp 150), none, false⟩]))
/-- patchbay/patchbaylaw17.Small -/
def ac14 : AC :=
 .seq (.region false [⟨(some 1), .box false 31 (.tmp 0), none, false⟩,
 ⟨(some 2), .move (.const (.bool false)), none, false⟩])
 (.seq (.seq (.region false (⟨(some 9), .faddr 0 1 false (.tmp 1), none, false⟩ :: ⟨(some 10), .load 1 false (.tmp 9), none, false⟩ :: ⟨(some 11), .bi .len [9].toArray 3 [(.tmp 10)], none, false⟩ :: ⟨(some 12), .bin .gtr 3 (.tmp 11) (.const (.int .i64 40)), none, false⟩ :: ⟨(some 13), .move (.tmp 12), none, false⟩ :: (ac14_G1 ++ (⟨(some 19), .move (.tmp 18), none, false⟩ :: (ac14_G2 ++ (⟨(some 25), .move (.tmp 24), none, false⟩ :: (ac14_G3 ++ (⟨(some 31), .move (.tmp 30), none, false⟩ :: (ac14_G4 ++ (⟨(some 37), .move (.tmp 36), none, false⟩ :: (ac14_G5 ++ (⟨(some 43), .move (.tmp 42), none, false⟩ :: (ac14_G6 ++ (⟨(some 49), .move (.tmp 48), none, false⟩ :: (ac14_G7 ++ [])))))))))))))))
 (.cond (.tmp 54)
 (.seq (.region false [⟨(some 2), .move (.const (.bool false)), none, false⟩])
 (.ret))
 (.skip)))
 (.seq (.seq (.region false [⟨(some 3), .move (.const (.int .i64 0)), none, false⟩])
 (.block 0 (.loop ac14_L1)))
 (.seq (.seq (.region false [⟨(some 4), .move (.const (.int .i64 0)), none, false⟩])
 (.block 2 (.loop ac14_L2)))
 (.seq (.seq (.region false [⟨(some 5), .move (.const (.int .i64 0)), none, false⟩])
 (.block 4 (.loop ac14_L3)))
 (.seq (.seq (.region false [⟨(some 6), .move (.const (.int .i64 0)), none, false⟩])
 (.block 6 (.loop ac14_L4)))
 (.seq (.seq (.region false [⟨(some 8), .move (.const (.int .i64 0)), none, false⟩])
 (.block 8 (.loop ac14_L5)))
 (.seq (.region false [⟨(some 2), .move (.const (.bool true)), none, false⟩])
 (.ret))))))))
theorem text14 : FnText Try.prog 14 [7] 179 1 ac14 [(2, none)] :=
 ⟨Try.call14, follows, Try.f14, _, Try.func14, rfl, rfl, by decide, by kernel_rfl, by kernel_rfl⟩

def ac27_G1 : List AOper :=
 [⟨(some 9), .faddr 1 1 false (.tmp 1), (some (8, false)), false⟩,
 ⟨(some 10), .load 1 false (.tmp 9), (some (8, false)), false⟩,
 ⟨(some 11), .bi .len [43].toArray 3 [(.tmp 10)], (some (8, false)), false⟩,
 ⟨(some 12), .bin .gtr 3 (.tmp 11) (.const (.int .i64 20)), (some (8, false)), false⟩,
 ⟨(some 13), .pick (.tmp 8) (.const (.bool true)) (.tmp 12), none, false⟩]
def ac27_G2 : List AOper :=
 [⟨(some 15), .faddr 2 1 false (.tmp 1), (some (14, false)), false⟩,
 ⟨(some 16), .load 1 false (.tmp 15), (some (14, false)), false⟩,
 ⟨(some 17), .bi .len [44].toArray 3 [(.tmp 16)], (some (14, false)), false⟩,
 ⟨(some 18), .bin .gtr 3 (.tmp 17) (.const (.int .i64 30)), (some (14, false)), false⟩,
 ⟨(some 19), .pick (.tmp 14) (.const (.bool true)) (.tmp 18), none, false⟩]
def ac27_G3 : List AOper :=
 [⟨(some 21), .faddr 3 1 false (.tmp 1), (some (20, false)), false⟩,
 ⟨(some 22), .load 1 false (.tmp 21), (some (20, false)), false⟩,
 ⟨(some 23), .bi .len [45].toArray 3 [(.tmp 22)], (some (20, false)), false⟩,
 ⟨(some 24), .bin .gtr 3 (.tmp 23) (.const (.int .i64 300)), (some (20, false)), false⟩,
 ⟨(some 25), .pick (.tmp 20) (.const (.bool true)) (.tmp 24), none, false⟩]
def ac27_L1 : AC :=
 .seq (.seq (.region false [⟨(some 26), .move (.tmp 3), none, false⟩,
 ⟨(some 27), .faddr 1 1 false (.tmp 1), none, false⟩,
 ⟨(some 28), .load 1 false (.tmp 27), none, false⟩,
 ⟨(some 29), .bi .len [43].toArray 3 [(.tmp 28)], none, false⟩,
 ⟨(some 30), .bin .lss 3 (.tmp 26) (.tmp 29), none, false⟩])
 (.cond (.tmp 30)
 (.skip)
 (.exit 0)))
 (.seq (.block 1 (.seq (.region false [⟨(some 33), .faddr 1 1 false (.tmp 1), none, false⟩,
 ⟨(some 34), .load 1 false (.tmp 33), none, false⟩,
 ⟨(some 35), .move (.tmp 3), none, false⟩,
 ⟨(some 36), .iaddr 1 (.tmp 34) (.tmp 35), none, false⟩,
 ⟨(some 37), .load 1 false (.tmp 36), none, false⟩,
 ⟨(some 38), .bi .len [44].toArray 3 [(.tmp 37)], none, false⟩,
 ⟨(some 39), .bin .gtr 3 (.tmp 38) (.const (.int .i64 30)), none, false⟩])
 (.cond (.tmp 39)
 (.seq (.region false [⟨(some 2), .move (.const (.bool false)), none, false⟩])
 (.ret))
 (.skip))))
 (.region false [⟨(some 31), .move (.tmp 3), none, false⟩,
 ⟨(some 32), .bin .add 3 (.tmp 31) (.const (.int .i64 1)), none, false⟩,
 ⟨(some 3), .move (.tmp 32), none, false⟩]))
/-- patchbay/patchbaylaw17.SmallEnv -/
def ac27 : AC :=
 .seq (.region false [⟨(some 1), .box false 47 (.tmp 0), none, false⟩,
 ⟨(some 2), .move (.const (.bool false)), none, false⟩])
 (.seq (.seq (.region false (⟨(some 4), .faddr 0 1 false (.tmp 1), none, false⟩ :: ⟨(some 5), .load 1 false (.tmp 4), none, false⟩ :: ⟨(some 6), .bi .len [42].toArray 3 [(.tmp 5)], none, false⟩ :: ⟨(some 7), .bin .gtr 3 (.tmp 6) (.const (.int .i64 20)), none, false⟩ :: ⟨(some 8), .move (.tmp 7), none, false⟩ :: (ac27_G1 ++ (⟨(some 14), .move (.tmp 13), none, false⟩ :: (ac27_G2 ++ (⟨(some 20), .move (.tmp 19), none, false⟩ :: (ac27_G3 ++ [])))))))
 (.cond (.tmp 25)
 (.seq (.region false [⟨(some 2), .move (.const (.bool false)), none, false⟩])
 (.ret))
 (.skip)))
 (.seq (.seq (.region false [⟨(some 3), .move (.const (.int .i64 0)), none, false⟩])
 (.block 0 (.loop ac27_L1)))
 (.seq (.region false [⟨(some 2), .move (.const (.bool true)), none, false⟩])
 (.ret))))
theorem text27 : FnText Try.prog 27 [] 40 1 ac27 [(2, none)] :=
 ⟨Try.call27, follows, Try.f27, _, Try.func27, rfl, rfl, by decide, by kernel_rfl, by kernel_rfl⟩

def ac71_G1 : List AOper :=
 [⟨(some 6), .move (.tmp 0), (some (5, true)), false⟩,
 ⟨(some 7), .bin .leq 5 (.tmp 6) (.const (.int .u8 122)), (some (5, true)), false⟩,
 ⟨(some 8), .pick (.tmp 5) (.tmp 7) (.const (.bool false)), none, false⟩]
def ac71_G3 : List AOper :=
 [⟨(some 13), .move (.tmp 0), (some (12, true)), false⟩,
 ⟨(some 14), .bin .leq 5 (.tmp 13) (.const (.int .u8 90)), (some (12, true)), false⟩,
 ⟨(some 15), .pick (.tmp 12) (.tmp 14) (.const (.bool false)), (some (9, false)), false⟩]
def ac71_G2 : List AOper :=
 (⟨(some 10), .move (.tmp 0), (some (9, false)), false⟩ :: ⟨(some 11), .bin .geq 5 (.tmp 10) (.const (.int .u8 65)), (some (9, false)), false⟩ :: ⟨(some 12), .move (.tmp 11), (some (9, false)), false⟩ :: (ac71_G3 ++ [⟨(some 16), .pick (.tmp 9) (.const (.bool true)) (.tmp 15), none, false⟩]))
/-- patchbay/lexer.isLetter -/
def ac71 : AC :=
 .seq (.region false [⟨(some 2), .move (.const (.bool false)), none, false⟩])
 (.seq (.region false (⟨(some 3), .move (.tmp 0), none, false⟩ :: ⟨(some 4), .bin .geq 5 (.tmp 3) (.const (.int .u8 97)), none, false⟩ :: ⟨(some 5), .move (.tmp 4), none, false⟩ :: (ac71_G1 ++ (⟨(some 9), .move (.tmp 8), none, false⟩ :: (ac71_G2 ++ [⟨(some 2), .move (.tmp 16), none, false⟩])))))
 (.ret))
theorem text71 : FnText Try.prog 71 [] 17 1 ac71 [(2, none)] :=
 ⟨Try.call71, follows, Try.f71, _, Try.func71, rfl, rfl, by decide, by kernel_rfl, by kernel_rfl⟩

def ac72_G1 : List AOper :=
 [⟨(some 11), .move (.tmp 1), (some (10, true)), false⟩,
 ⟨(some 12), .move (.tmp 0), (some (10, true)), false⟩,
 ⟨(some 13), .move (.tmp 5), (some (10, true)), false⟩,
 ⟨(some 14), .indexS 9 (.tmp 12) (.tmp 13), (some (10, true)), false⟩,
 ⟨(some 15), .call (.tmp 11) [(.tmp 14)], (some (10, true)), false⟩,
 ⟨(some 16), .pick (.tmp 10) (.tmp 15) (.const (.bool false)), none, false⟩]
def ac72_L1 : AC :=
 .seq (.seq (.region false (⟨(some 6), .move (.tmp 5), none, false⟩ :: ⟨(some 7), .move (.tmp 0), none, false⟩ :: ⟨(some 8), .bi .len [9].toArray 3 [(.tmp 7)], none, false⟩ :: ⟨(some 9), .bin .lss 3 (.tmp 6) (.tmp 8), none, false⟩ :: ⟨(some 10), .move (.tmp 9), none, false⟩ :: (ac72_G1 ++ [])))
 (.cond (.tmp 16)
 (.skip)
 (.exit 0)))
 (.block 1 (.region false [⟨(some 17), .move (.tmp 5), none, false⟩,
 ⟨(some 18), .bin .add 3 (.tmp 17) (.const (.int .i64 1)), none, false⟩,
 ⟨(some 5), .move (.tmp 18), none, false⟩]))
/-- patchbay/lexer.extent -/
def ac72 : AC :=
 .seq (.region false [⟨(some 4), .move (.const (.int .i64 0)), none, false⟩])
 (.seq (.region false [⟨(some 5), .move (.const (.int .i64 0)), none, false⟩])
 (.seq (.block 0 (.loop ac72_L1))
 (.seq (.region false [⟨(some 19), .move (.tmp 5), none, false⟩,
 ⟨(some 4), .move (.tmp 19), none, false⟩])
 (.ret))))
theorem text72 : FnText Try.prog 72 [] 20 2 ac72 [(4, none)] :=
 ⟨Try.call72, follows, Try.f72, _, Try.func72, rfl, rfl, by decide, by kernel_rfl, by kernel_rfl⟩

def ac74_G1 : List AOper :=
 [⟨(some 6), .move (.tmp 0), (some (5, true)), false⟩,
 ⟨(some 7), .bin .leq 5 (.tmp 6) (.const (.int .u8 57)), (some (5, true)), false⟩,
 ⟨(some 8), .pick (.tmp 5) (.tmp 7) (.const (.bool false)), none, false⟩]
/-- patchbay/lexer.isDigit -/
def ac74 : AC :=
 .seq (.region false [⟨(some 2), .move (.const (.bool false)), none, false⟩])
 (.seq (.region false (⟨(some 3), .move (.tmp 0), none, false⟩ :: ⟨(some 4), .bin .geq 5 (.tmp 3) (.const (.int .u8 48)), none, false⟩ :: ⟨(some 5), .move (.tmp 4), none, false⟩ :: (ac74_G1 ++ [⟨(some 2), .move (.tmp 8), none, false⟩])))
 (.ret))
theorem text74 : FnText Try.prog 74 [] 9 1 ac74 [(2, none)] :=
 ⟨Try.call74, follows, Try.f74, _, Try.func74, rfl, rfl, by decide, by kernel_rfl, by kernel_rfl⟩

def ac73_G1 : List AOper :=
 [⟨(some 6), .move (.tmp 0), (some (5, false)), false⟩,
 ⟨(some 7), .call (.func 74) [(.tmp 6)], (some (5, false)), false⟩,
 ⟨(some 8), .pick (.tmp 5) (.const (.bool true)) (.tmp 7), none, false⟩]
def ac73_G2 : List AOper :=
 [⟨(some 10), .move (.tmp 0), (some (9, false)), false⟩,
 ⟨(some 11), .bin .eql 5 (.tmp 10) (.const (.int .u8 95)), (some (9, false)), false⟩,
 ⟨(some 12), .pick (.tmp 9) (.const (.bool true)) (.tmp 11), none, false⟩]
/-- patchbay/lexer.IsIdentifier$1 -/
def ac73 : AC :=
 .seq (.region false [⟨(some 2), .move (.const (.bool false)), none, false⟩])
 (.seq (.region false (⟨(some 3), .move (.tmp 0), none, false⟩ :: ⟨(some 4), .call (.func 71) [(.tmp 3)], none, false⟩ :: ⟨(some 5), .move (.tmp 4), none, false⟩ :: (ac73_G1 ++ (⟨(some 9), .move (.tmp 8), none, false⟩ :: (ac73_G2 ++ [⟨(some 2), .move (.tmp 12), none, false⟩])))))
 (.ret))
theorem text73 : FnText Try.prog 73 [] 13 1 ac73 [(2, none)] :=
 ⟨Try.call73, follows, Try.f73, _, Try.func73, rfl, rfl, by decide, by kernel_rfl, by kernel_rfl⟩

def ac46_G1 : List AOper :=
 [⟨(some 7), .move (.tmp 0), (some (6, false)), false⟩,
 ⟨(some 8), .bi .len [9].toArray 3 [(.tmp 7)], (some (6, false)), false⟩,
 ⟨(some 9), .bin .gtr 3 (.tmp 8) (.const (.int .i64 16)), (some (6, false)), false⟩,
 ⟨(some 10), .pick (.tmp 6) (.const (.bool true)) (.tmp 9), none, false⟩]
def ac46_G2 : List AOper :=
 [⟨(some 12), .move (.tmp 0), (some (11, false)), false⟩,
 ⟨(some 13), .indexS 9 (.tmp 12) (.const (.int .i64 0)), (some (11, false)), false⟩,
 ⟨(some 14), .call (.func 71) [(.tmp 13)], (some (11, false)), false⟩,
 ⟨(some 15), .un .not (.tmp 14), (some (11, false)), false⟩,
 ⟨(some 16), .pick (.tmp 11) (.const (.bool true)) (.tmp 15), none, false⟩]
/-- patchbay/lexer.IsIdentifier -/
def ac46 : AC :=
 .seq (.region false [⟨(some 2), .move (.const (.bool false)), none, false⟩])
 (.seq (.seq (.region false (⟨(some 3), .move (.tmp 0), none, false⟩ :: ⟨(some 4), .bi .len [9].toArray 3 [(.tmp 3)], none, false⟩ :: ⟨(some 5), .bin .eql 3 (.tmp 4) (.const (.int .i64 0)), none, false⟩ :: ⟨(some 6), .move (.tmp 5), none, false⟩ :: (ac46_G1 ++ (⟨(some 11), .move (.tmp 10), none, false⟩ :: (ac46_G2 ++ [])))))
 (.cond (.tmp 16)
 (.seq (.region false [⟨(some 2), .move (.const (.bool false)), none, false⟩])
 (.ret))
 (.skip)))
 (.seq (.region false [⟨(some 17), .move (.tmp 0), none, false⟩,
 ⟨(some 18), .call (.func 72) [(.tmp 17), (.func 73)], none, false⟩,
 ⟨(some 19), .move (.tmp 0), none, false⟩,
 ⟨(some 20), .bi .len [9].toArray 3 [(.tmp 19)], none, false⟩,
 ⟨(some 21), .bin .eql 3 (.tmp 18) (.tmp 20), none, false⟩,
 ⟨(some 2), .move (.tmp 21), none, false⟩])
 (.ret)))
theorem text46 : FnText Try.prog 46 [] 22 1 ac46 [(2, none)] :=
 ⟨Try.call46, follows, Try.f46, _, Try.func46, rfl, rfl, by decide, by kernel_rfl, by kernel_rfl⟩

def ac89_G1 : List AOper :=
 [⟨(some 9), .move (.tmp 1), (some (8, false)), false⟩,
 ⟨(some 10), .move (.tmp 0), (some (8, false)), false⟩,
 ⟨(some 11), .bi .len [22].toArray 3 [(.tmp 10)], (some (8, false)), false⟩,
 ⟨(some 12), .bin .geq 3 (.tmp 9) (.tmp 11), (some (8, false)), false⟩,
 ⟨(some 13), .pick (.tmp 8) (.const (.bool true)) (.tmp 12), none, false⟩]
/-- patchbay/env.at[patchbay/api.Header] -/
def ac89 : AC :=
 .seq (.region false [⟨(some 4), .alloc true 89 (.agg [(.string ⟨[].toArray⟩), (.slice none 0 0)].toArray), none, false⟩])
 (.seq (.region false [⟨(some 5), .alloc false 89 (.agg [(.string ⟨[].toArray⟩), (.slice none 0 0)].toArray), none, false⟩])
 (.seq (.seq (.region false (⟨(some 6), .move (.tmp 1), none, false⟩ :: ⟨(some 7), .bin .lss 3 (.tmp 6) (.const (.int .i64 0)), none, false⟩ :: ⟨(some 8), .move (.tmp 7), none, false⟩ :: (ac89_G1 ++ [])))
 (.cond (.tmp 13)
 (.seq (.region false [⟨(some 14), .load 2 true (.tmp 5), none, false⟩,
 ⟨none, .store 2 (.tmp 4) (.tmp 14), none, false⟩])
 (.ret))
 (.skip)))
 (.seq (.region false [⟨(some 15), .move (.tmp 0), none, false⟩,
 ⟨(some 16), .move (.tmp 1), none, false⟩,
 ⟨(some 17), .iaddr 2 (.tmp 15) (.tmp 16), none, false⟩,
 ⟨(some 18), .load 2 true (.tmp 17), none, false⟩,
 ⟨none, .store 2 (.tmp 4) (.tmp 18), none, false⟩])
 (.ret))))
theorem text89 : FnText Try.prog 89 [4] 19 2 ac89 [(4, some (2, true))] :=
 ⟨Try.call89, follows, Try.f89, _, Try.func89, rfl, rfl, by decide, by kernel_rfl, by kernel_rfl⟩


/-- patchbay/env.fields -/
def ac78 : AC :=
 .seq (.region false [⟨(some 2), .box false 31 (.tmp 0), none, false⟩,
 ⟨(some 4), .move (.const (.slice none 0 0)), none, false⟩])
 (.seq (.seq (.region false [⟨(some 5), .move (.tmp 1), none, false⟩,
 ⟨(some 6), .bin .eql 3 (.tmp 5) (.const (.int .i64 (-1))), none, false⟩])
 (.cond (.tmp 6)
 (.seq (.region false [⟨(some 7), .faddr 2 1 false (.tmp 2), none, false⟩,
 ⟨(some 8), .load 1 false (.tmp 7), none, false⟩,
 ⟨(some 4), .move (.tmp 8), none, false⟩])
 (.ret))
 (.skip)))
 (.seq (.region false [⟨(some 9), .faddr 1 1 false (.tmp 2), none, false⟩,
 ⟨(some 10), .load 1 false (.tmp 9), none, false⟩,
 ⟨(some 11), .move (.tmp 1), none, false⟩,
 ⟨(some 12), .call (.func 89) [(.tmp 10), (.tmp 11)], none, false⟩,
 ⟨(some 13), .field 1 1 false (.tmp 12), none, false⟩,
 ⟨(some 4), .move (.tmp 13), none, false⟩])
 (.ret)))
theorem text78 : FnText Try.prog 78 [] 14 2 ac78 [(4, none)] :=
 ⟨Try.call78, follows, Try.f78, _, Try.func78, rfl, rfl, by decide, by kernel_rfl, by kernel_rfl⟩

def ac77_G1 : List AOper :=
 [⟨(some 9), .move (.tmp 1), (some (8, false)), false⟩,
 ⟨(some 10), .move (.tmp 0), (some (8, false)), false⟩,
 ⟨(some 11), .bi .len [23].toArray 3 [(.tmp 10)], (some (8, false)), false⟩,
 ⟨(some 12), .bin .geq 3 (.tmp 9) (.tmp 11), (some (8, false)), false⟩,
 ⟨(some 13), .pick (.tmp 8) (.const (.bool true)) (.tmp 12), none, false⟩]
/-- patchbay/env.at[patchbay/api.Field] -/
def ac77 : AC :=
 .seq (.region false [⟨(some 4), .alloc true 65 (.agg [(.string ⟨[].toArray⟩), (.int .i64 0)].toArray), none, false⟩])
 (.seq (.region false [⟨(some 5), .alloc false 65 (.agg [(.string ⟨[].toArray⟩), (.int .i64 0)].toArray), none, false⟩])
 (.seq (.seq (.region false (⟨(some 6), .move (.tmp 1), none, false⟩ :: ⟨(some 7), .bin .lss 3 (.tmp 6) (.const (.int .i64 0)), none, false⟩ :: ⟨(some 8), .move (.tmp 7), none, false⟩ :: (ac77_G1 ++ [])))
 (.cond (.tmp 13)
 (.seq (.region false [⟨(some 14), .load 2 true (.tmp 5), none, false⟩,
 ⟨none, .store 2 (.tmp 4) (.tmp 14), none, false⟩])
 (.ret))
 (.skip)))
 (.seq (.region false [⟨(some 15), .move (.tmp 0), none, false⟩,
 ⟨(some 16), .move (.tmp 1), none, false⟩,
 ⟨(some 17), .iaddr 2 (.tmp 15) (.tmp 16), none, false⟩,
 ⟨(some 18), .load 2 true (.tmp 17), none, false⟩,
 ⟨none, .store 2 (.tmp 4) (.tmp 18), none, false⟩])
 (.ret))))
theorem text77 : FnText Try.prog 77 [4] 19 2 ac77 [(4, some (2, true))] :=
 ⟨Try.call77, follows, Try.f77, _, Try.func77, rfl, rfl, by decide, by kernel_rfl, by kernel_rfl⟩

def ac80_G1 : List AOper :=
 [⟨(some 14), .move (.tmp 4), (some (13, false)), false⟩,
 ⟨(some 15), .bin .gtr 3 (.tmp 14) (.const (.int .i64 32)), (some (13, false)), false⟩,
 ⟨(some 16), .pick (.tmp 13) (.const (.bool true)) (.tmp 15), none, false⟩]
def ac80_L1 : AC :=
 .seq (.region false [⟨(some 8), .bin .lss 3 (.tmp 7) (.tmp 6), none, false⟩])
 (.seq (.cond (.tmp 8)
 (.skip)
 (.exit 0))
 (.seq (.block 1 (.seq (.region false [⟨(some 9), .iaddr 1 (.tmp 5) (.tmp 7), none, false⟩,
 ⟨(some 10), .load 1 false (.tmp 9), none, false⟩,
 ⟨(some 4), .move (.tmp 10), none, false⟩])
 (.seq (.region false (⟨(some 11), .move (.tmp 4), none, false⟩ :: ⟨(some 12), .bin .lss 3 (.tmp 11) (.const (.int .i64 1)), none, false⟩ :: ⟨(some 13), .move (.tmp 12), none, false⟩ :: (ac80_G1 ++ [])))
 (.cond (.tmp 16)
 (.seq (.region false [⟨(some 2), .move (.const (.bool false)), none, false⟩])
 (.ret))
 (.skip)))))
 (.region false [⟨(some 17), .bin .add 3 (.tmp 7) (.const (.int .i64 1)), none, false⟩,
 ⟨(some 7), .move (.tmp 17), none, false⟩])))
/-- patchbay/bitvec.valid -/
def ac80 : AC :=
 .seq (.region false [⟨(some 2), .move (.const (.bool false)), none, false⟩])
 (.seq (.seq (.region false [⟨(some 5), .move (.tmp 0), none, false⟩,
 ⟨(some 6), .bi .len [29].toArray 3 [(.tmp 5)], none, false⟩,
 ⟨(some 7), .move (.const (.int .i64 0)), none, false⟩])
 (.block 0 (.loop ac80_L1)))
 (.seq (.region false [⟨(some 2), .move (.const (.bool true)), none, false⟩])
 (.ret)))
theorem text80 : FnText Try.prog 80 [] 18 1 ac80 [(2, none)] :=
 ⟨Try.call80, follows, Try.f80, _, Try.func80, rfl, rfl, by decide, by kernel_rfl, by kernel_rfl⟩


/-- patchbay/bitvec.Mask -/
def ac58 : AC :=
 .seq (.region false [⟨(some 2), .move (.const (.int .u32 0)), none, false⟩])
 (.seq (.seq (.region false [⟨(some 3), .move (.tmp 0), none, false⟩,
 ⟨(some 4), .bslice false 3 1 false [(.tmp 3)], none, false⟩,
 ⟨(some 5), .call (.func 80) [(.tmp 4)], none, false⟩,
 ⟨(some 6), .un .not (.tmp 5), none, false⟩])
 (.cond (.tmp 6)
 (.seq (.region false [⟨(some 2), .move (.const (.int .u32 0)), none, false⟩])
 (.ret))
 (.skip)))
 (.seq (.region false [⟨(some 7), .move (.tmp 0), none, false⟩,
 ⟨(some 8), .bin .sub 3 (.const (.int .i64 32)) (.tmp 7), none, false⟩,
 ⟨(some 9), .bin .shr 57 (.const (.int .u32 4294967295)) (.tmp 8), none, false⟩,
 ⟨(some 2), .move (.tmp 9), none, false⟩])
 (.ret)))
theorem text58 : FnText Try.prog 58 [] 10 1 ac58 [(2, none)] :=
 ⟨Try.call58, follows, Try.f58, _, Try.func58, rfl, rfl, by decide, by kernel_rfl, by kernel_rfl⟩


/-- patchbay/env.Width -/
def ac54 : AC :=
 .seq (.region false [⟨(some 2), .box false 31 (.tmp 0), none, false⟩,
 ⟨(some 3), .box false 60 (.tmp 1), none, false⟩,
 ⟨(some 4), .move (.const (.int .i64 0)), none, false⟩])
 (.seq (.region true [⟨(some 6), .load 9 true (.tmp 2), none, false⟩,
 ⟨(some 7), .faddr 0 1 false (.tmp 3), none, false⟩,
 ⟨(some 8), .load 1 false (.tmp 7), none, false⟩,
 ⟨(some 9), .call (.func 78) [(.tmp 6), (.tmp 8)], none, false⟩,
 ⟨(some 10), .faddr 1 1 false (.tmp 3), none, false⟩,
 ⟨(some 11), .load 1 false (.tmp 10), none, false⟩,
 ⟨(some 12), .call (.func 77) [(.tmp 9), (.tmp 11)], none, false⟩,
 ⟨(some 13), .field 1 1 false (.tmp 12), none, false⟩,
 ⟨(some 5), .move (.tmp 13), none, false⟩])
 (.seq (.seq (.region false [⟨(some 14), .move (.tmp 5), none, false⟩,
 ⟨(some 15), .call (.func 58) [(.tmp 14)], none, false⟩,
 ⟨(some 16), .bin .eql 57 (.tmp 15) (.const (.int .u32 0)), none, false⟩])
 (.cond (.tmp 16)
 (.seq (.region false [⟨(some 4), .move (.const (.int .i64 0)), none, false⟩])
 (.ret))
 (.skip)))
 (.seq (.region false [⟨(some 17), .move (.tmp 5), none, false⟩,
 ⟨(some 4), .move (.tmp 17), none, false⟩])
 (.ret))))
theorem text54 : FnText Try.prog 54 [] 18 2 ac54 [(4, none)] :=
 ⟨Try.call54, follows, Try.f54, _, Try.func54, rfl, rfl, by decide, by kernel_rfl, by kernel_rfl⟩

def ac47_L1 : AC :=
 .seq (.region false [⟨(some 15), .bin .lss 3 (.tmp 14) (.tmp 13), none, false⟩])
 (.seq (.cond (.tmp 15)
 (.skip)
 (.exit 0))
 (.seq (.block 1 (.seq (.region false [⟨(some 16), .move (.tmp 14), none, false⟩,
 ⟨(some 17), .iaddr 3 (.tmp 12) (.tmp 14), none, false⟩,
 ⟨(some 18), .load 3 true (.tmp 17), none, false⟩,
 ⟨(some 9), .alloc true 62 (.agg [(.int .i64 0), (.int .i64 0), (.int .i64 0)].toArray), none, false⟩,
 ⟨(some 8), .move (.tmp 16), none, false⟩,
 ⟨none, .store 3 (.tmp 9) (.tmp 18), none, false⟩])
 (.seq (.region false [⟨(some 19), .load 9 true (.tmp 2), none, false⟩,
 ⟨(some 20), .faddr 0 2 true (.tmp 9), none, false⟩,
 ⟨(some 21), .load 2 true (.tmp 20), none, false⟩,
 ⟨(some 22), .call (.func 54) [(.tmp 19), (.tmp 21)], none, false⟩,
 ⟨(some 10), .move (.tmp 22), none, false⟩])
 (.seq (.seq (.region false [⟨(some 23), .move (.tmp 10), none, false⟩,
 ⟨(some 24), .bin .eql 3 (.tmp 23) (.const (.int .i64 0)), none, false⟩])
 (.cond (.tmp 24)
 (.seq (.region false [⟨(some 25), .move (.tmp 8), none, false⟩,
 ⟨(some 4), .move (.tmp 25), none, false⟩,
 ⟨(some 5), .move (.const (.int .i64 8)), none, false⟩])
 (.ret))
 (.skip)))
 (.seq (.seq (.region false [⟨(some 26), .faddr 2 1 false (.tmp 9), none, false⟩,
 ⟨(some 27), .load 1 false (.tmp 26), none, false⟩])
 (.block 2 (.seq (.region false [⟨(some 30), .bin .eql 3 (.tmp 27) (.const (.int .i64 2)), none, false⟩,
 ⟨(some 29), .move (.tmp 30), none, false⟩])
 (.cond (.tmp 29)
 (.region false [⟨(some 31), .move (.tmp 6), none, false⟩,
 ⟨(some 32), .bin .add 3 (.tmp 31) (.const (.int .i64 1)), none, false⟩,
 ⟨(some 6), .move (.tmp 32), none, false⟩])
 (.seq (.seq (.region false [⟨(some 34), .bin .eql 3 (.tmp 27) (.const (.int .i64 1)), none, false⟩,
 ⟨(some 33), .move (.tmp 34), none, false⟩])
 (.cond (.tmp 33)
 (.skip)
 (.region false [⟨(some 35), .bin .eql 3 (.tmp 27) (.const (.int .i64 3)), none, false⟩,
 ⟨(some 33), .move (.tmp 35), none, false⟩])))
 (.cond (.tmp 33)
 (.skip)
 (.seq (.region false [⟨(some 28), .move (.tmp 8), none, false⟩,
 ⟨(some 4), .move (.tmp 28), none, false⟩,
 ⟨(some 5), .move (.const (.int .i64 11)), none, false⟩])
 (.ret))))))))
 (.region false [⟨(some 36), .move (.tmp 7), none, false⟩,
 ⟨(some 37), .move (.tmp 10), none, false⟩,
 ⟨(some 38), .bin .add 3 (.tmp 36) (.tmp 37), none, false⟩,
 ⟨(some 7), .move (.tmp 38), none, false⟩]))))))
 (.region false [⟨(some 39), .bin .add 3 (.tmp 14) (.const (.int .i64 1)), none, false⟩,
 ⟨(some 14), .move (.tmp 39), none, false⟩])))
/-- patchbay/table.checkKeys -/
def ac47 : AC :=
 .seq (.region false [⟨(some 2), .box false 31 (.tmp 0), none, false⟩,
 ⟨(some 3), .box false 56 (.tmp 1), none, false⟩,
 ⟨(some 4), .move (.const (.int .i64 0)), none, false⟩,
 ⟨(some 5), .move (.const (.int .i64 0)), none, false⟩])
 (.seq (.region false [⟨(some 6), .move (.const (.int .i64 0)), none, false⟩,
 ⟨(some 7), .move (.const (.int .i64 0)), none, false⟩])
 (.seq (.seq (.region false [⟨(some 11), .faddr 1 1 false (.tmp 3), none, false⟩,
 ⟨(some 12), .load 1 false (.tmp 11), none, false⟩,
 ⟨(some 13), .bi .len [52].toArray 3 [(.tmp 12)], none, false⟩,
 ⟨(some 14), .move (.const (.int .i64 0)), none, false⟩])
 (.block 0 (.loop ac47_L1)))
 (.seq (.seq (.region false [⟨(some 40), .move (.tmp 6), none, false⟩,
 ⟨(some 41), .bin .gtr 3 (.tmp 40) (.const (.int .i64 1)), none, false⟩])
 (.cond (.tmp 41)
 (.seq (.region false [⟨(some 4), .move (.const (.int .i64 (-2))), none, false⟩,
 ⟨(some 5), .move (.const (.int .i64 7)), none, false⟩])
 (.ret))
 (.skip)))
 (.seq (.seq (.region false [⟨(some 42), .move (.tmp 7), none, false⟩,
 ⟨(some 43), .bin .gtr 3 (.tmp 42) (.const (.int .i64 64)), none, false⟩])
 (.cond (.tmp 43)
 (.seq (.region false [⟨(some 4), .move (.const (.int .i64 (-2))), none, false⟩,
 ⟨(some 5), .move (.const (.int .i64 10)), none, false⟩])
 (.ret))
 (.skip)))
 (.seq (.region false [⟨(some 4), .move (.const (.int .i64 0)), none, false⟩,
 ⟨(some 5), .move (.const (.int .i64 0)), none, false⟩])
 (.ret))))))
theorem text47 : FnText Try.prog 47 [9] 44 2 ac47 [(4, none), (5, none)] :=
 ⟨Try.call47, follows, Try.f47, _, Try.func47, rfl, rfl, by decide, by kernel_rfl, by kernel_rfl⟩

def ac83_G1 : List AOper :=
 [⟨(some 9), .move (.tmp 0), (some (8, true)), false⟩,
 ⟨(some 10), .move (.tmp 1), (some (8, true)), false⟩,
 ⟨(some 11), .call (.func 58) [(.tmp 10)], (some (8, true)), false⟩,
 ⟨(some 12), .bin .leq 57 (.tmp 9) (.tmp 11), (some (8, true)), false⟩,
 ⟨(some 13), .pick (.tmp 8) (.tmp 12) (.const (.bool false)), none, false⟩]
/-- patchbay/bitvec.Fits -/
def ac83 : AC :=
 .seq (.region false [⟨(some 4), .move (.const (.bool false)), none, false⟩])
 (.seq (.region false (⟨(some 5), .move (.tmp 1), none, false⟩ :: ⟨(some 6), .bslice false 3 1 false [(.tmp 5)], none, false⟩ :: ⟨(some 7), .call (.func 80) [(.tmp 6)], none, false⟩ :: ⟨(some 8), .move (.tmp 7), none, false⟩ :: (ac83_G1 ++ [⟨(some 4), .move (.tmp 13), none, false⟩])))
 (.ret))
theorem text83 : FnText Try.prog 83 [] 14 2 ac83 [(4, none)] :=
 ⟨Try.call83, follows, Try.f83, _, Try.func83, rfl, rfl, by decide, by kernel_rfl, by kernel_rfl⟩

def ac64_G1 : List AOper :=
 [⟨(some 12), .faddr 0 1 false (.tmp 3), (some (11, false)), false⟩,
 ⟨(some 13), .load 1 false (.tmp 12), (some (11, false)), false⟩,
 ⟨(some 14), .faddr 4 1 false (.tmp 2), (some (11, false)), false⟩,
 ⟨(some 15), .load 1 false (.tmp 14), (some (11, false)), false⟩,
 ⟨(some 16), .bi .len [25].toArray 3 [(.tmp 15)], (some (11, false)), false⟩,
 ⟨(some 17), .bin .geq 3 (.tmp 13) (.tmp 16), (some (11, false)), false⟩,
 ⟨(some 18), .pick (.tmp 11) (.const (.bool true)) (.tmp 17), none, false⟩]
def ac64_L1 : AC :=
 .seq (.region false [⟨(some 36), .bin .lss 3 (.tmp 35) (.tmp 34), none, false⟩])
 (.seq (.cond (.tmp 36)
 (.skip)
 (.exit 0))
 (.seq (.block 1 (.seq (.region false [⟨(some 37), .move (.tmp 35), none, false⟩,
 ⟨(some 38), .iaddr 1 (.tmp 33) (.tmp 35), none, false⟩,
 ⟨(some 39), .load 1 false (.tmp 38), none, false⟩,
 ⟨(some 6), .move (.tmp 37), none, false⟩,
 ⟨(some 7), .move (.tmp 39), none, false⟩])
 (.seq (.region false [⟨(some 40), .move (.tmp 7), none, false⟩,
 ⟨(some 41), .move (.tmp 5), none, false⟩,
 ⟨(some 42), .move (.tmp 6), none, false⟩,
 ⟨(some 43), .iaddr 2 (.tmp 41) (.tmp 42), none, false⟩,
 ⟨(some 44), .faddr 1 1 false (.tmp 43), none, false⟩,
 ⟨(some 45), .load 1 false (.tmp 44), none, false⟩,
 ⟨(some 46), .call (.func 83) [(.tmp 40), (.tmp 45)], none, false⟩,
 ⟨(some 47), .un .not (.tmp 46), none, false⟩])
 (.cond (.tmp 47)
 (.seq (.region false [⟨(some 4), .move (.const (.int .i64 9)), none, false⟩])
 (.ret))
 (.skip)))))
 (.region false [⟨(some 48), .bin .add 3 (.tmp 35) (.const (.int .i64 1)), none, false⟩,
 ⟨(some 35), .move (.tmp 48), none, false⟩])))
/-- patchbay/action.CheckCall -/
def ac64 : AC :=
 .seq (.region false [⟨(some 2), .box false 31 (.tmp 0), none, false⟩,
 ⟨(some 3), .box false 54 (.tmp 1), none, false⟩,
 ⟨(some 4), .move (.const (.int .i64 0)), none, false⟩])
 (.seq (.seq (.region false (⟨(some 8), .faddr 0 1 false (.tmp 3), none, false⟩ :: ⟨(some 9), .load 1 false (.tmp 8), none, false⟩ :: ⟨(some 10), .bin .lss 3 (.tmp 9) (.const (.int .i64 0)), none, false⟩ :: ⟨(some 11), .move (.tmp 10), none, false⟩ :: (ac64_G1 ++ [])))
 (.cond (.tmp 18)
 (.seq (.region false [⟨(some 4), .move (.const (.int .i64 8)), none, false⟩])
 (.ret))
 (.skip)))
 (.seq (.region false [⟨(some 19), .faddr 4 1 false (.tmp 2), none, false⟩,
 ⟨(some 20), .load 1 false (.tmp 19), none, false⟩,
 ⟨(some 21), .faddr 0 1 false (.tmp 3), none, false⟩,
 ⟨(some 22), .load 1 false (.tmp 21), none, false⟩,
 ⟨(some 23), .iaddr 3 (.tmp 20) (.tmp 22), none, false⟩,
 ⟨(some 24), .faddr 1 1 false (.tmp 23), none, false⟩,
 ⟨(some 25), .load 1 false (.tmp 24), none, false⟩,
 ⟨(some 5), .move (.tmp 25), none, false⟩])
 (.seq (.seq (.region false [⟨(some 26), .faddr 1 1 false (.tmp 3), none, false⟩,
 ⟨(some 27), .load 1 false (.tmp 26), none, false⟩,
 ⟨(some 28), .bi .len [44].toArray 3 [(.tmp 27)], none, false⟩,
 ⟨(some 29), .move (.tmp 5), none, false⟩,
 ⟨(some 30), .bi .len [23].toArray 3 [(.tmp 29)], none, false⟩,
 ⟨(some 31), .bin .neq 3 (.tmp 28) (.tmp 30), none, false⟩])
 (.cond (.tmp 31)
 (.seq (.region false [⟨(some 4), .move (.const (.int .i64 2)), none, false⟩])
 (.ret))
 (.skip)))
 (.seq (.seq (.region false [⟨(some 32), .faddr 1 1 false (.tmp 3), none, false⟩,
 ⟨(some 33), .load 1 false (.tmp 32), none, false⟩,
 ⟨(some 34), .bi .len [44].toArray 3 [(.tmp 33)], none, false⟩,
 ⟨(some 35), .move (.const (.int .i64 0)), none, false⟩])
 (.block 0 (.loop ac64_L1)))
 (.seq (.region false [⟨(some 4), .move (.const (.int .i64 0)), none, false⟩])
 (.ret))))))
theorem text64 : FnText Try.prog 64 [] 49 2 ac64 [(4, none)] :=
 ⟨Try.call64, follows, Try.f64, _, Try.func64, rfl, rfl, by decide, by kernel_rfl, by kernel_rfl⟩

def ac48_G1 : List AOper :=
 [⟨(some 19), .move (.tmp 7), (some (18, false)), false⟩,
 ⟨(some 20), .faddr 4 1 false (.tmp 2), (some (18, false)), false⟩,
 ⟨(some 21), .load 1 false (.tmp 20), (some (18, false)), false⟩,
 ⟨(some 22), .bi .len [25].toArray 3 [(.tmp 21)], (some (18, false)), false⟩,
 ⟨(some 23), .bin .geq 3 (.tmp 19) (.tmp 22), (some (18, false)), false⟩,
 ⟨(some 24), .pick (.tmp 18) (.const (.bool true)) (.tmp 23), none, false⟩]
def ac48_L1 : AC :=
 .seq (.region false [⟨(some 13), .bin .lss 3 (.tmp 12) (.tmp 11), none, false⟩])
 (.seq (.cond (.tmp 13)
 (.skip)
 (.exit 0))
 (.seq (.block 1 (.seq (.region false [⟨(some 14), .iaddr 1 (.tmp 10) (.tmp 12), none, false⟩,
 ⟨(some 15), .load 1 false (.tmp 14), none, false⟩,
 ⟨(some 7), .move (.tmp 15), none, false⟩])
 (.seq (.seq (.region false (⟨(some 16), .move (.tmp 7), none, false⟩ :: ⟨(some 17), .bin .lss 3 (.tmp 16) (.const (.int .i64 0)), none, false⟩ :: ⟨(some 18), .move (.tmp 17), none, false⟩ :: (ac48_G1 ++ [])))
 (.cond (.tmp 24)
 (.seq (.region false [⟨(some 4), .move (.const (.int .i64 8)), none, false⟩])
 (.ret))
 (.skip)))
 (.seq (.seq (.region false [⟨(some 25), .move (.tmp 5), none, false⟩,
 ⟨(some 26), .move (.tmp 7), none, false⟩,
 ⟨(some 27), .lookup 118 3 4 (.bool false) false (.tmp 25) (.tmp 26), none, false⟩])
 (.cond (.tmp 27)
 (.seq (.region false [⟨(some 4), .move (.const (.int .i64 7)), none, false⟩])
 (.ret))
 (.skip)))
 (.region false [⟨(some 28), .move (.tmp 5), none, false⟩,
 ⟨(some 29), .move (.tmp 7), none, false⟩,
 ⟨none, .mapUpdate 118 3 (.tmp 28) (.tmp 29) (.const (.bool true)), none, false⟩])))))
 (.region false [⟨(some 30), .bin .add 3 (.tmp 12) (.const (.int .i64 1)), none, false⟩,
 ⟨(some 12), .move (.tmp 30), none, false⟩])))
/-- patchbay/table.checkActions -/
def ac48 : AC :=
 .seq (.region false [⟨(some 2), .box false 31 (.tmp 0), none, false⟩,
 ⟨(some 3), .box false 56 (.tmp 1), none, false⟩,
 ⟨(some 4), .move (.const (.int .i64 0)), none, false⟩])
 (.seq (.region false [⟨(some 8), .mkMap 118, none, false⟩,
 ⟨(some 5), .move (.tmp 8), none, false⟩])
 (.seq (.seq (.region false [⟨(some 9), .faddr 2 1 false (.tmp 3), none, false⟩,
 ⟨(some 10), .load 1 false (.tmp 9), none, false⟩,
 ⟨(some 11), .bi .len [29].toArray 3 [(.tmp 10)], none, false⟩,
 ⟨(some 12), .move (.const (.int .i64 0)), none, false⟩])
 (.block 0 (.loop ac48_L1)))
 (.seq (.seq (.region false [⟨(some 31), .move (.tmp 5), none, false⟩,
 ⟨(some 32), .faddr 3 2 true (.tmp 3), none, false⟩,
 ⟨(some 33), .faddr 0 1 false (.tmp 32), none, false⟩,
 ⟨(some 34), .load 1 false (.tmp 33), none, false⟩,
 ⟨(some 35), .lookup 118 3 4 (.bool false) false (.tmp 31) (.tmp 34), none, false⟩,
 ⟨(some 36), .un .not (.tmp 35), none, false⟩])
 (.cond (.tmp 36)
 (.seq (.region false [⟨(some 4), .move (.const (.int .i64 8)), none, false⟩])
 (.ret))
 (.skip)))
 (.seq (.region false [⟨(some 37), .load 9 true (.tmp 2), none, false⟩,
 ⟨(some 38), .faddr 3 2 true (.tmp 3), none, false⟩,
 ⟨(some 39), .load 2 true (.tmp 38), none, false⟩,
 ⟨(some 40), .call (.func 64) [(.tmp 37), (.tmp 39)], none, false⟩,
 ⟨(some 4), .move (.tmp 40), none, false⟩])
 (.ret)))))
theorem text48 : FnText Try.prog 48 [] 41 2 ac48 [(4, none)] :=
 ⟨Try.call48, follows, Try.f48, _, Try.func48, rfl, rfl, by decide, by kernel_rfl, by kernel_rfl⟩

def ac16_G1 : List AOper :=
 [⟨(some 10), .move (.tmp 1), (some (9, false)), false⟩,
 ⟨(some 11), .faddr 5 1 false (.tmp 2), (some (9, false)), false⟩,
 ⟨(some 12), .load 1 false (.tmp 11), (some (9, false)), false⟩,
 ⟨(some 13), .bi .len [26].toArray 3 [(.tmp 12)], (some (9, false)), false⟩,
 ⟨(some 14), .bin .geq 3 (.tmp 10) (.tmp 13), (some (9, false)), false⟩,
 ⟨(some 15), .pick (.tmp 9) (.const (.bool true)) (.tmp 14), none, false⟩]
def ac16_G2 : List AOper :=
 [⟨(some 32), .faddr 2 1 false (.tmp 6), (some (31, false)), false⟩,
 ⟨(some 33), .load 1 false (.tmp 32), (some (31, false)), false⟩,
 ⟨(some 34), .bi .len [29].toArray 3 [(.tmp 33)], (some (31, false)), false⟩,
 ⟨(some 35), .bin .gtr 3 (.tmp 34) (.const (.int .i64 16)), (some (31, false)), false⟩,
 ⟨(some 36), .pick (.tmp 31) (.const (.bool true)) (.tmp 35), none, false⟩]
def ac16_G3 : List AOper :=
 [⟨(some 42), .faddr 5 1 false (.tmp 6), (some (41, false)), false⟩,
 ⟨(some 43), .load 1 false (.tmp 42), (some (41, false)), false⟩,
 ⟨(some 44), .bin .gtr 3 (.tmp 43) (.const (.int .i64 256)), (some (41, false)), false⟩,
 ⟨(some 45), .pick (.tmp 41) (.const (.bool true)) (.tmp 44), none, false⟩]
/-- patchbay/table.Check -/
def ac16 : AC :=
 .seq (.region false [⟨(some 2), .box false 31 (.tmp 0), none, false⟩,
 ⟨(some 4), .move (.const (.int .i64 0)), none, false⟩,
 ⟨(some 5), .move (.const (.int .i64 0)), none, false⟩])
 (.seq (.seq (.region false (⟨(some 7), .move (.tmp 1), none, false⟩ :: ⟨(some 8), .bin .lss 3 (.tmp 7) (.const (.int .i64 0)), none, false⟩ :: ⟨(some 9), .move (.tmp 8), none, false⟩ :: (ac16_G1 ++ [])))
 (.cond (.tmp 15)
 (.seq (.region false [⟨(some 4), .move (.const (.int .i64 (-1))), none, false⟩,
 ⟨(some 5), .move (.const (.int .i64 8)), none, false⟩])
 (.ret))
 (.skip)))
 (.seq (.region false [⟨(some 16), .faddr 5 1 false (.tmp 2), none, false⟩,
 ⟨(some 17), .load 1 false (.tmp 16), none, false⟩,
 ⟨(some 18), .move (.tmp 1), none, false⟩,
 ⟨(some 19), .iaddr 6 (.tmp 17) (.tmp 18), none, false⟩,
 ⟨(some 20), .load 6 true (.tmp 19), none, false⟩,
 ⟨(some 6), .alloc true 56 (.agg [(.string ⟨[].toArray⟩), (.slice none 0 0), (.slice none 0 0), (.int .i64 0), (.slice none 0 0), (.int .i64 0)].toArray), none, false⟩,
 ⟨none, .store 6 (.tmp 6) (.tmp 20), none, false⟩])
 (.seq (.block 0 (.seq (.region false [⟨(some 22), .faddr 0 1 false (.tmp 6), none, false⟩,
 ⟨(some 23), .load 1 false (.tmp 22), none, false⟩,
 ⟨(some 24), .call (.func 46) [(.tmp 23)], none, false⟩,
 ⟨(some 25), .un .not (.tmp 24), none, false⟩,
 ⟨(some 21), .move (.tmp 25), none, false⟩])
 (.cond (.tmp 21)
 (.seq (.region false [⟨(some 4), .move (.const (.int .i64 (-1))), none, false⟩,
 ⟨(some 5), .move (.const (.int .i64 6)), none, false⟩])
 (.ret))
 (.seq (.region false (⟨(some 27), .faddr 1 1 false (.tmp 6), none, false⟩ :: ⟨(some 28), .load 1 false (.tmp 27), none, false⟩ :: ⟨(some 29), .bi .len [52].toArray 3 [(.tmp 28)], none, false⟩ :: ⟨(some 30), .bin .gtr 3 (.tmp 29) (.const (.int .i64 6)), none, false⟩ :: ⟨(some 31), .move (.tmp 30), none, false⟩ :: (ac16_G2 ++ [⟨(some 26), .move (.tmp 36), none, false⟩])))
 (.cond (.tmp 26)
 (.seq (.region false [⟨(some 4), .move (.const (.int .i64 (-1))), none, false⟩,
 ⟨(some 5), .move (.const (.int .i64 12)), none, false⟩])
 (.ret))
 (.seq (.region false (⟨(some 38), .faddr 5 1 false (.tmp 6), none, false⟩ :: ⟨(some 39), .load 1 false (.tmp 38), none, false⟩ :: ⟨(some 40), .bin .lss 3 (.tmp 39) (.const (.int .i64 1)), none, false⟩ :: ⟨(some 41), .move (.tmp 40), none, false⟩ :: (ac16_G3 ++ [⟨(some 37), .move (.tmp 45), none, false⟩])))
 (.cond (.tmp 37)
 (.seq (.region false [⟨(some 4), .move (.const (.int .i64 (-1))), none, false⟩,
 ⟨(some 5), .move (.const (.int .i64 9)), none, false⟩])
 (.ret))
 (.skip))))))))
 (.seq (.seq (.region false [⟨(some 47), .load 9 true (.tmp 2), none, false⟩,
 ⟨(some 48), .load 6 true (.tmp 6), none, false⟩,
 ⟨(some 49), .call (.func 47) [(.tmp 47), (.tmp 48)], none, false⟩,
 ⟨(some 46), .move (.tmp 49), none, false⟩,
 ⟨(some 50), .extract (.tmp 46) 0, none, false⟩,
 ⟨(some 51), .extract (.tmp 46) 1, none, false⟩,
 ⟨(some 4), .move (.tmp 50), none, false⟩,
 ⟨(some 5), .move (.tmp 51), none, false⟩])
 (.seq (.region false [⟨(some 52), .move (.tmp 5), none, false⟩,
 ⟨(some 53), .bin .neq 34 (.tmp 52) (.const (.int .i64 0)), none, false⟩])
 (.cond (.tmp 53)
 (.seq (.region false [⟨(some 54), .move (.tmp 4), none, false⟩,
 ⟨(some 55), .move (.tmp 5), none, false⟩,
 ⟨(some 4), .move (.tmp 54), none, false⟩,
 ⟨(some 5), .move (.tmp 55), none, false⟩])
 (.ret))
 (.skip))))
 (.seq (.seq (.region false [⟨(some 56), .load 9 true (.tmp 2), none, false⟩,
 ⟨(some 57), .load 6 true (.tmp 6), none, false⟩,
 ⟨(some 58), .call (.func 48) [(.tmp 56), (.tmp 57)], none, false⟩,
 ⟨(some 5), .move (.tmp 58), none, false⟩])
 (.seq (.region false [⟨(some 59), .move (.tmp 5), none, false⟩,
 ⟨(some 60), .bin .neq 34 (.tmp 59) (.const (.int .i64 0)), none, false⟩])
 (.cond (.tmp 60)
 (.seq (.region false [⟨(some 61), .move (.tmp 5), none, false⟩,
 ⟨(some 4), .move (.const (.int .i64 (-3))), none, false⟩,
 ⟨(some 5), .move (.tmp 61), none, false⟩])
 (.ret))
 (.skip))))
 (.seq (.region false [⟨(some 4), .move (.const (.int .i64 0)), none, false⟩,
 ⟨(some 5), .move (.const (.int .i64 0)), none, false⟩])
 (.ret)))))))
theorem text16 : FnText Try.prog 16 [6] 62 2 ac16 [(4, none), (5, none)] :=
 ⟨Try.call16, follows, Try.f16, _, Try.func16, rfl, rfl, by decide, by kernel_rfl, by kernel_rfl⟩


/-- patchbay/table.valid -/
def ac52 : AC :=
 .seq (.region false [⟨(some 2), .box false 31 (.tmp 0), none, false⟩,
 ⟨(some 4), .move (.const (.bool false)), none, false⟩])
 (.seq (.region false [⟨(some 8), .load 9 true (.tmp 2), none, false⟩,
 ⟨(some 9), .move (.tmp 1), none, false⟩,
 ⟨(some 10), .call (.func 16) [(.tmp 8), (.tmp 9)], none, false⟩,
 ⟨(some 7), .move (.tmp 10), none, false⟩,
 ⟨(some 11), .extract (.tmp 7) 0, none, false⟩,
 ⟨(some 12), .extract (.tmp 7) 1, none, false⟩,
 ⟨(some 5), .move (.tmp 11), none, false⟩,
 ⟨(some 6), .move (.tmp 12), none, false⟩])
 (.seq (.region false [⟨(some 13), .move (.tmp 6), none, false⟩,
 ⟨(some 14), .bin .eql 34 (.tmp 13) (.const (.int .i64 0)), none, false⟩,
 ⟨(some 4), .move (.tmp 14), none, false⟩])
 (.ret)))
theorem text52 : FnText Try.prog 52 [] 15 2 ac52 [(4, none)] :=
 ⟨Try.call52, follows, Try.f52, _, Try.func52, rfl, rfl, by decide, by kernel_rfl, by kernel_rfl⟩

def ac18_L1 : AC :=
 .seq (.region false [⟨(some 20), .bin .lss 3 (.tmp 19) (.tmp 18), none, false⟩])
 (.seq (.cond (.tmp 20)
 (.skip)
 (.exit 0))
 (.seq (.block 1 (.seq (.region false [⟨(some 21), .iaddr 3 (.tmp 17) (.tmp 19), none, false⟩,
 ⟨(some 22), .load 3 true (.tmp 21), none, false⟩,
 ⟨(some 7), .alloc true 62 (.agg [(.int .i64 0), (.int .i64 0), (.int .i64 0)].toArray), none, false⟩,
 ⟨none, .store 3 (.tmp 7) (.tmp 22), none, false⟩])
 (.block 2 (.seq (.region false [⟨(some 24), .faddr 2 1 false (.tmp 7), none, false⟩,
 ⟨(some 25), .load 1 false (.tmp 24), none, false⟩,
 ⟨(some 26), .bin .eql 3 (.tmp 25) (.const (.int .i64 3)), none, false⟩,
 ⟨(some 23), .move (.tmp 26), none, false⟩])
 (.cond (.tmp 23)
 (.seq (.region false [⟨(some 4), .move (.const (.int .i64 3)), none, false⟩])
 (.ret))
 (.seq (.region false [⟨(some 28), .faddr 2 1 false (.tmp 7), none, false⟩,
 ⟨(some 29), .load 1 false (.tmp 28), none, false⟩,
 ⟨(some 30), .bin .eql 3 (.tmp 29) (.const (.int .i64 2)), none, false⟩,
 ⟨(some 27), .move (.tmp 30), none, false⟩])
 (.cond (.tmp 27)
 (.region false [⟨(some 5), .move (.const (.int .i64 2)), none, false⟩])
 (.skip))))))))
 (.region false [⟨(some 31), .bin .add 3 (.tmp 19) (.const (.int .i64 1)), none, false⟩,
 ⟨(some 19), .move (.tmp 31), none, false⟩])))
/-- patchbay/table.Kind -/
def ac18 : AC :=
 .seq (.region false [⟨(some 2), .box false 31 (.tmp 0), none, false⟩,
 ⟨(some 4), .move (.const (.int .i64 0)), none, false⟩])
 (.seq (.seq (.region false [⟨(some 8), .load 9 true (.tmp 2), none, false⟩,
 ⟨(some 9), .move (.tmp 1), none, false⟩,
 ⟨(some 10), .call (.func 52) [(.tmp 8), (.tmp 9)], none, false⟩,
 ⟨(some 11), .un .not (.tmp 10), none, false⟩])
 (.cond (.tmp 11)
 (.seq (.region false [⟨(some 4), .move (.const (.int .i64 0)), none, false⟩])
 (.ret))
 (.skip)))
 (.seq (.region false [⟨(some 5), .move (.const (.int .i64 1)), none, false⟩])
 (.seq (.seq (.region false [⟨(some 12), .faddr 5 1 false (.tmp 2), none, false⟩,
 ⟨(some 13), .load 1 false (.tmp 12), none, false⟩,
 ⟨(some 14), .move (.tmp 1), none, false⟩,
 ⟨(some 15), .iaddr 6 (.tmp 13) (.tmp 14), none, false⟩,
 ⟨(some 16), .faddr 1 1 false (.tmp 15), none, false⟩,
 ⟨(some 17), .load 1 false (.tmp 16), none, false⟩,
 ⟨(some 18), .bi .len [52].toArray 3 [(.tmp 17)], none, false⟩,
 ⟨(some 19), .move (.const (.int .i64 0)), none, false⟩])
 (.block 0 (.loop ac18_L1)))
 (.seq (.region false [⟨(some 32), .move (.tmp 5), none, false⟩,
 ⟨(some 4), .move (.tmp 32), none, false⟩])
 (.ret)))))
theorem text18 : FnText Try.prog 18 [7] 33 2 ac18 [(4, none)] :=
 ⟨Try.call18, follows, Try.f18, _, Try.func18, rfl, rfl, by decide, by kernel_rfl, by kernel_rfl⟩

def ac21_L1 : AC :=
 .seq (.region false [⟨(some 20), .bin .lss 3 (.tmp 19) (.tmp 18), none, false⟩])
 (.seq (.cond (.tmp 20)
 (.skip)
 (.exit 0))
 (.seq (.block 1 (.seq (.region false [⟨(some 21), .iaddr 3 (.tmp 17) (.tmp 19), none, false⟩,
 ⟨(some 22), .load 3 true (.tmp 21), none, false⟩,
 ⟨(some 7), .alloc true 62 (.agg [(.int .i64 0), (.int .i64 0), (.int .i64 0)].toArray), none, false⟩,
 ⟨none, .store 3 (.tmp 7) (.tmp 22), none, false⟩])
 (.region false [⟨(some 23), .move (.tmp 5), none, false⟩,
 ⟨(some 24), .load 9 true (.tmp 2), none, false⟩,
 ⟨(some 25), .faddr 0 2 true (.tmp 7), none, false⟩,
 ⟨(some 26), .load 2 true (.tmp 25), none, false⟩,
 ⟨(some 27), .call (.func 54) [(.tmp 24), (.tmp 26)], none, false⟩,
 ⟨(some 28), .bslice false 3 1 false [(.tmp 27)], none, false⟩,
 ⟨(some 29), .append 29 3 1 8 (.tmp 23) (.tmp 28), none, false⟩,
 ⟨(some 5), .move (.tmp 29), none, false⟩])))
 (.region false [⟨(some 30), .bin .add 3 (.tmp 19) (.const (.int .i64 1)), none, false⟩,
 ⟨(some 19), .move (.tmp 30), none, false⟩])))
/-- patchbay/table.Widths -/
def ac21 : AC :=
 .seq (.region false [⟨(some 2), .box false 31 (.tmp 0), none, false⟩,
 ⟨(some 4), .move (.const (.slice none 0 0)), none, false⟩])
 (.seq (.seq (.region false [⟨(some 8), .load 9 true (.tmp 2), none, false⟩,
 ⟨(some 9), .move (.tmp 1), none, false⟩,
 ⟨(some 10), .call (.func 52) [(.tmp 8), (.tmp 9)], none, false⟩,
 ⟨(some 11), .un .not (.tmp 10), none, false⟩])
 (.cond (.tmp 11)
 (.seq (.region false [⟨(some 4), .move (.const (.slice none 0 0)), none, false⟩])
 (.ret))
 (.skip)))
 (.seq (.region false [⟨(some 5), .move (.const (.slice none 0 0)), none, false⟩])
 (.seq (.seq (.region false [⟨(some 12), .faddr 5 1 false (.tmp 2), none, false⟩,
 ⟨(some 13), .load 1 false (.tmp 12), none, false⟩,
 ⟨(some 14), .move (.tmp 1), none, false⟩,
 ⟨(some 15), .iaddr 6 (.tmp 13) (.tmp 14), none, false⟩,
 ⟨(some 16), .faddr 1 1 false (.tmp 15), none, false⟩,
 ⟨(some 17), .load 1 false (.tmp 16), none, false⟩,
 ⟨(some 18), .bi .len [52].toArray 3 [(.tmp 17)], none, false⟩,
 ⟨(some 19), .move (.const (.int .i64 0)), none, false⟩])
 (.block 0 (.loop ac21_L1)))
 (.seq (.region false [⟨(some 31), .move (.tmp 5), none, false⟩,
 ⟨(some 4), .move (.tmp 31), none, false⟩])
 (.ret)))))
theorem text21 : FnText Try.prog 21 [7] 32 2 ac21 [(4, none)] :=
 ⟨Try.call21, follows, Try.f21, _, Try.func21, rfl, rfl, by decide, by kernel_rfl, by kernel_rfl⟩

def ac23_L1 : AC :=
 .seq (.region false [⟨(some 13), .bin .lss 3 (.tmp 12) (.tmp 11), none, false⟩])
 (.seq (.cond (.tmp 13)
 (.skip)
 (.exit 0))
 (.seq (.block 1 (.seq (.region false [⟨(some 14), .iaddr 1 (.tmp 10) (.tmp 12), none, false⟩,
 ⟨(some 15), .load 1 false (.tmp 14), none, false⟩,
 ⟨(some 7), .move (.tmp 15), none, false⟩])
 (.region false [⟨(some 16), .move (.tmp 5), none, false⟩,
 ⟨(some 17), .move (.tmp 7), none, false⟩,
 ⟨(some 18), .bin .add 3 (.tmp 16) (.tmp 17), none, false⟩,
 ⟨(some 5), .move (.tmp 18), none, false⟩])))
 (.region false [⟨(some 19), .bin .add 3 (.tmp 12) (.const (.int .i64 1)), none, false⟩,
 ⟨(some 12), .move (.tmp 19), none, false⟩])))
/-- patchbay/table.Bits -/
def ac23 : AC :=
 .seq (.region false [⟨(some 2), .box false 31 (.tmp 0), none, false⟩,
 ⟨(some 4), .move (.const (.int .i64 0)), none, false⟩])
 (.seq (.region false [⟨(some 5), .move (.const (.int .i64 0)), none, false⟩])
 (.seq (.seq (.region false [⟨(some 8), .load 9 true (.tmp 2), none, false⟩,
 ⟨(some 9), .move (.tmp 1), none, false⟩,
 ⟨(some 10), .call (.func 21) [(.tmp 8), (.tmp 9)], none, false⟩,
 ⟨(some 11), .bi .len [29].toArray 3 [(.tmp 10)], none, false⟩,
 ⟨(some 12), .move (.const (.int .i64 0)), none, false⟩])
 (.block 0 (.loop ac23_L1)))
 (.seq (.region false [⟨(some 20), .move (.tmp 5), none, false⟩,
 ⟨(some 4), .move (.tmp 20), none, false⟩])
 (.ret))))
theorem text23 : FnText Try.prog 23 [] 21 2 ac23 [(4, none)] :=
 ⟨Try.call23, follows, Try.f23, _, Try.func23, rfl, rfl, by decide, by kernel_rfl, by kernel_rfl⟩

def ac90_G1 : List AOper :=
 [⟨(some 8), .move (.tmp 1), (some (7, true)), false⟩,
 ⟨(some 9), .move (.tmp 0), (some (7, true)), false⟩,
 ⟨(some 10), .bi .len [44].toArray 3 [(.tmp 9)], (some (7, true)), false⟩,
 ⟨(some 11), .bin .lss 3 (.tmp 8) (.tmp 10), (some (7, true)), false⟩,
 ⟨(some 12), .pick (.tmp 7) (.tmp 11) (.const (.bool false)), none, false⟩]
/-- patchbay/env.in[uint32] -/
def ac90 : AC :=
 .seq (.region false [⟨(some 4), .move (.const (.bool false)), none, false⟩])
 (.seq (.region false (⟨(some 5), .move (.tmp 1), none, false⟩ :: ⟨(some 6), .bin .geq 3 (.tmp 5) (.const (.int .i64 0)), none, false⟩ :: ⟨(some 7), .move (.tmp 6), none, false⟩ :: (ac90_G1 ++ [⟨(some 4), .move (.tmp 12), none, false⟩])))
 (.ret))
theorem text90 : FnText Try.prog 90 [] 13 2 ac90 [(4, none)] :=
 ⟨Try.call90, follows, Try.f90, _, Try.func90, rfl, rfl, by decide, by kernel_rfl, by kernel_rfl⟩

def ac91_G1 : List AOper :=
 [⟨(some 9), .move (.tmp 1), (some (8, false)), false⟩,
 ⟨(some 10), .move (.tmp 0), (some (8, false)), false⟩,
 ⟨(some 11), .bi .len [43].toArray 3 [(.tmp 10)], (some (8, false)), false⟩,
 ⟨(some 12), .bin .geq 3 (.tmp 9) (.tmp 11), (some (8, false)), false⟩,
 ⟨(some 13), .pick (.tmp 8) (.const (.bool true)) (.tmp 12), none, false⟩]
/-- patchbay/env.at[[]uint32] -/
def ac91 : AC :=
 .seq (.region false [⟨(some 4), .move (.const (.slice none 0 0)), none, false⟩])
 (.seq (.region false [⟨(some 5), .move (.const (.slice none 0 0)), none, false⟩])
 (.seq (.seq (.region false (⟨(some 6), .move (.tmp 1), none, false⟩ :: ⟨(some 7), .bin .lss 3 (.tmp 6) (.const (.int .i64 0)), none, false⟩ :: ⟨(some 8), .move (.tmp 7), none, false⟩ :: (ac91_G1 ++ [])))
 (.cond (.tmp 13)
 (.seq (.region false [⟨(some 14), .move (.tmp 5), none, false⟩,
 ⟨(some 4), .move (.tmp 14), none, false⟩])
 (.ret))
 (.skip)))
 (.seq (.region false [⟨(some 15), .move (.tmp 0), none, false⟩,
 ⟨(some 16), .move (.tmp 1), none, false⟩,
 ⟨(some 17), .iaddr 1 (.tmp 15) (.tmp 16), none, false⟩,
 ⟨(some 18), .load 1 false (.tmp 17), none, false⟩,
 ⟨(some 4), .move (.tmp 18), none, false⟩])
 (.ret))))
theorem text91 : FnText Try.prog 91 [] 19 2 ac91 [(4, none)] :=
 ⟨Try.call91, follows, Try.f91, _, Try.func91, rfl, rfl, by decide, by kernel_rfl, by kernel_rfl⟩

def ac92_G1 : List AOper :=
 [⟨(some 9), .move (.tmp 1), (some (8, false)), false⟩,
 ⟨(some 10), .move (.tmp 0), (some (8, false)), false⟩,
 ⟨(some 11), .bi .len [42].toArray 3 [(.tmp 10)], (some (8, false)), false⟩,
 ⟨(some 12), .bin .geq 3 (.tmp 9) (.tmp 11), (some (8, false)), false⟩,
 ⟨(some 13), .pick (.tmp 8) (.const (.bool true)) (.tmp 12), none, false⟩]
/-- patchbay/env.at[bool] -/
def ac92 : AC :=
 .seq (.region false [⟨(some 4), .move (.const (.bool false)), none, false⟩])
 (.seq (.region false [⟨(some 5), .move (.const (.bool false)), none, false⟩])
 (.seq (.seq (.region false (⟨(some 6), .move (.tmp 1), none, false⟩ :: ⟨(some 7), .bin .lss 3 (.tmp 6) (.const (.int .i64 0)), none, false⟩ :: ⟨(some 8), .move (.tmp 7), none, false⟩ :: (ac92_G1 ++ [])))
 (.cond (.tmp 13)
 (.seq (.region false [⟨(some 14), .move (.tmp 5), none, false⟩,
 ⟨(some 4), .move (.tmp 14), none, false⟩])
 (.ret))
 (.skip)))
 (.seq (.region false [⟨(some 15), .move (.tmp 0), none, false⟩,
 ⟨(some 16), .move (.tmp 1), none, false⟩,
 ⟨(some 17), .iaddr 1 (.tmp 15) (.tmp 16), none, false⟩,
 ⟨(some 18), .load 1 false (.tmp 17), none, false⟩,
 ⟨(some 4), .move (.tmp 18), none, false⟩])
 (.ret))))
theorem text92 : FnText Try.prog 92 [] 19 2 ac92 [(4, none)] :=
 ⟨Try.call92, follows, Try.f92, _, Try.func92, rfl, rfl, by decide, by kernel_rfl, by kernel_rfl⟩

def ac79_G1 : List AOper :=
 [⟨(some 31), .move (.tmp 6), (some (30, true)), false⟩,
 ⟨(some 32), .faddr 1 1 false (.tmp 3), (some (30, true)), false⟩,
 ⟨(some 33), .load 1 false (.tmp 32), (some (30, true)), false⟩,
 ⟨(some 34), .call (.func 90) [(.tmp 31), (.tmp 33)], (some (30, true)), false⟩,
 ⟨(some 35), .pick (.tmp 30) (.tmp 34) (.const (.bool false)), none, false⟩]
/-- patchbay/env.element -/
def ac79 : AC :=
 .seq (.region false [⟨(some 2), .box false 47 (.tmp 0), none, false⟩,
 ⟨(some 3), .box false 60 (.tmp 1), none, false⟩,
 ⟨(some 4), .move (.const (.slice none 0 0)), none, false⟩,
 ⟨(some 5), .move (.const (.bool false)), none, false⟩])
 (.seq (.seq (.region false [⟨(some 7), .load 2 true (.tmp 3), none, false⟩,
 ⟨(some 8), .faddr 1 1 false (.tmp 3), none, false⟩,
 ⟨(some 9), .load 1 false (.tmp 8), none, false⟩,
 ⟨(some 10), .build [(.int .i64 0), (.int .i64 0)] [(0, 1, (.const (.int .i64 (-1)))), (1, 1, (.tmp 9))], none, false⟩,
 ⟨(some 11), .bin .eql 60 (.tmp 7) (.tmp 10), none, false⟩])
 (.cond (.tmp 11)
 (.seq (.region true [⟨(some 12), .faddr 2 1 false (.tmp 2), none, false⟩,
 ⟨(some 13), .load 1 false (.tmp 12), none, false⟩,
 ⟨(some 14), .faddr 2 1 false (.tmp 2), none, false⟩,
 ⟨(some 15), .load 1 false (.tmp 14), none, false⟩,
 ⟨(some 16), .faddr 1 1 false (.tmp 3), none, false⟩,
 ⟨(some 17), .load 1 false (.tmp 16), none, false⟩,
 ⟨(some 18), .call (.func 90) [(.tmp 15), (.tmp 17)], none, false⟩,
 ⟨(some 4), .move (.tmp 13), none, false⟩,
 ⟨(some 5), .move (.tmp 18), none, false⟩])
 (.ret))
 (.skip)))
 (.seq (.region false [⟨(some 19), .faddr 1 1 false (.tmp 2), none, false⟩,
 ⟨(some 20), .load 1 false (.tmp 19), none, false⟩,
 ⟨(some 21), .faddr 0 1 false (.tmp 3), none, false⟩,
 ⟨(some 22), .load 1 false (.tmp 21), none, false⟩,
 ⟨(some 23), .call (.func 91) [(.tmp 20), (.tmp 22)], none, false⟩,
 ⟨(some 6), .move (.tmp 23), none, false⟩])
 (.seq (.region false (⟨(some 24), .move (.tmp 6), none, false⟩ :: ⟨(some 25), .faddr 0 1 false (.tmp 2), none, false⟩ :: ⟨(some 26), .load 1 false (.tmp 25), none, false⟩ :: ⟨(some 27), .faddr 0 1 false (.tmp 3), none, false⟩ :: ⟨(some 28), .load 1 false (.tmp 27), none, false⟩ :: ⟨(some 29), .call (.func 92) [(.tmp 26), (.tmp 28)], none, false⟩ :: ⟨(some 30), .move (.tmp 29), none, false⟩ :: (ac79_G1 ++ [⟨(some 4), .move (.tmp 24), none, false⟩,
 ⟨(some 5), .move (.tmp 35), none, false⟩])))
 (.ret))))
theorem text79 : FnText Try.prog 79 [] 36 2 ac79 [(4, none), (5, none)] :=
 ⟨Try.call79, follows, Try.f79, _, Try.func79, rfl, rfl, by decide, by kernel_rfl, by kernel_rfl⟩


/-- patchbay/env.Get -/
def ac57 : AC :=
 .seq (.region false [⟨(some 2), .box false 47 (.tmp 0), none, false⟩,
 ⟨(some 3), .box false 60 (.tmp 1), none, false⟩,
 ⟨(some 4), .move (.const (.int .u32 0)), none, false⟩])
 (.seq (.region false [⟨(some 8), .load 4 true (.tmp 2), none, false⟩,
 ⟨(some 9), .load 2 true (.tmp 3), none, false⟩,
 ⟨(some 10), .call (.func 79) [(.tmp 8), (.tmp 9)], none, false⟩,
 ⟨(some 7), .move (.tmp 10), none, false⟩,
 ⟨(some 11), .extract (.tmp 7) 0, none, false⟩,
 ⟨(some 12), .extract (.tmp 7) 1, none, false⟩,
 ⟨(some 5), .move (.tmp 11), none, false⟩,
 ⟨(some 6), .move (.tmp 12), none, false⟩])
 (.seq (.seq (.region false [⟨(some 13), .move (.tmp 6), none, false⟩,
 ⟨(some 14), .un .not (.tmp 13), none, false⟩])
 (.cond (.tmp 14)
 (.seq (.region false [⟨(some 4), .move (.const (.int .u32 0)), none, false⟩])
 (.ret))
 (.skip)))
 (.seq (.region false [⟨(some 15), .move (.tmp 5), none, false⟩,
 ⟨(some 16), .faddr 1 1 false (.tmp 3), none, false⟩,
 ⟨(some 17), .load 1 false (.tmp 16), none, false⟩,
 ⟨(some 18), .iaddr 1 (.tmp 15) (.tmp 17), none, false⟩,
 ⟨(some 19), .load 1 false (.tmp 18), none, false⟩,
 ⟨(some 4), .move (.tmp 19), none, false⟩])
 (.ret))))
theorem text57 : FnText Try.prog 57 [] 20 2 ac57 [(4, none)] :=
 ⟨Try.call57, follows, Try.f57, _, Try.func57, rfl, rfl, by decide, by kernel_rfl, by kernel_rfl⟩

def ac29_L1 : AC :=
 .seq (.region false [⟨(some 15), .bin .lss 3 (.tmp 14) (.tmp 13), none, false⟩])
 (.seq (.cond (.tmp 15)
 (.skip)
 (.exit 0))
 (.seq (.block 1 (.seq (.region false [⟨(some 16), .move (.tmp 14), none, false⟩,
 ⟨(some 17), .iaddr 1 (.tmp 12) (.tmp 14), none, false⟩,
 ⟨(some 18), .load 1 false (.tmp 17), none, false⟩,
 ⟨(some 8), .move (.tmp 16), none, false⟩,
 ⟨(some 9), .move (.tmp 18), none, false⟩])
 (.region true [⟨(some 19), .move (.tmp 7), none, false⟩,
 ⟨(some 20), .load 4 true (.tmp 5), none, false⟩,
 ⟨(some 21), .faddr 5 1 false (.tmp 3), none, false⟩,
 ⟨(some 22), .load 1 false (.tmp 21), none, false⟩,
 ⟨(some 23), .move (.tmp 1), none, false⟩,
 ⟨(some 24), .iaddr 6 (.tmp 22) (.tmp 23), none, false⟩,
 ⟨(some 25), .faddr 1 1 false (.tmp 24), none, false⟩,
 ⟨(some 26), .load 1 false (.tmp 25), none, false⟩,
 ⟨(some 27), .move (.tmp 8), none, false⟩,
 ⟨(some 28), .iaddr 3 (.tmp 26) (.tmp 27), none, false⟩,
 ⟨(some 29), .faddr 0 2 true (.tmp 28), none, false⟩,
 ⟨(some 30), .load 2 true (.tmp 29), none, false⟩,
 ⟨(some 31), .call (.func 57) [(.tmp 20), (.tmp 30)], none, false⟩,
 ⟨(some 32), .move (.tmp 9), none, false⟩,
 ⟨(some 33), .call (.func 58) [(.tmp 32)], none, false⟩,
 ⟨(some 34), .bin .and 57 (.tmp 31) (.tmp 33), none, false⟩,
 ⟨(some 35), .bslice false 57 1 false [(.tmp 34)], none, false⟩,
 ⟨(some 36), .append 44 57 1 4 (.tmp 19) (.tmp 35), none, false⟩,
 ⟨(some 7), .move (.tmp 36), none, false⟩])))
 (.region false [⟨(some 37), .bin .add 3 (.tmp 14) (.const (.int .i64 1)), none, false⟩,
 ⟨(some 14), .move (.tmp 37), none, false⟩])))
/-- patchbay/table.Key -/
def ac29 : AC :=
 .seq (.region false [⟨(some 3), .box false 31 (.tmp 0), none, false⟩,
 ⟨(some 5), .box false 47 (.tmp 2), none, false⟩,
 ⟨(some 6), .move (.const (.slice none 0 0)), none, false⟩])
 (.seq (.region false [⟨(some 7), .move (.const (.slice none 0 0)), none, false⟩])
 (.seq (.seq (.region false [⟨(some 10), .load 9 true (.tmp 3), none, false⟩,
 ⟨(some 11), .move (.tmp 1), none, false⟩,
 ⟨(some 12), .call (.func 21) [(.tmp 10), (.tmp 11)], none, false⟩,
 ⟨(some 13), .bi .len [29].toArray 3 [(.tmp 12)], none, false⟩,
 ⟨(some 14), .move (.const (.int .i64 0)), none, false⟩])
 (.block 0 (.loop ac29_L1)))
 (.seq (.region false [⟨(some 38), .move (.tmp 7), none, false⟩,
 ⟨(some 6), .move (.tmp 38), none, false⟩])
 (.ret))))
theorem text29 : FnText Try.prog 29 [] 39 3 ac29 [(6, none)] :=
 ⟨Try.call29, follows, Try.f29, _, Try.func29, rfl, rfl, by decide, by kernel_rfl, by kernel_rfl⟩

def ac28_L1 : AC :=
 .seq (.seq (.region false [⟨(some 11), .move (.tmp 5), none, false⟩,
 ⟨(some 12), .move (.tmp 0), none, false⟩,
 ⟨(some 13), .bi .len [44].toArray 3 [(.tmp 12)], none, false⟩,
 ⟨(some 14), .bin .lss 3 (.tmp 11) (.tmp 13), none, false⟩])
 (.cond (.tmp 14)
 (.skip)
 (.exit 0)))
 (.seq (.block 1 (.seq (.region true [⟨(some 17), .move (.tmp 0), none, false⟩,
 ⟨(some 18), .move (.tmp 5), none, false⟩,
 ⟨(some 19), .iaddr 1 (.tmp 17) (.tmp 18), none, false⟩,
 ⟨(some 20), .load 1 false (.tmp 19), none, false⟩,
 ⟨(some 21), .move (.tmp 1), none, false⟩,
 ⟨(some 22), .move (.tmp 5), none, false⟩,
 ⟨(some 23), .iaddr 1 (.tmp 21) (.tmp 22), none, false⟩,
 ⟨(some 24), .load 1 false (.tmp 23), none, false⟩,
 ⟨(some 25), .bin .neq 57 (.tmp 20) (.tmp 24), none, false⟩])
 (.cond (.tmp 25)
 (.seq (.region false [⟨(some 4), .move (.const (.bool false)), none, false⟩])
 (.ret))
 (.skip))))
 (.region false [⟨(some 15), .move (.tmp 5), none, false⟩,
 ⟨(some 16), .bin .add 3 (.tmp 15) (.const (.int .i64 1)), none, false⟩,
 ⟨(some 5), .move (.tmp 16), none, false⟩]))
/-- patchbay/patchbayref02.EqualUint32s -/
def ac28 : AC :=
 .seq (.region false [⟨(some 4), .move (.const (.bool false)), none, false⟩])
 (.seq (.seq (.region false [⟨(some 6), .move (.tmp 0), none, false⟩,
 ⟨(some 7), .bi .len [44].toArray 3 [(.tmp 6)], none, false⟩,
 ⟨(some 8), .move (.tmp 1), none, false⟩,
 ⟨(some 9), .bi .len [44].toArray 3 [(.tmp 8)], none, false⟩,
 ⟨(some 10), .bin .neq 3 (.tmp 7) (.tmp 9), none, false⟩])
 (.cond (.tmp 10)
 (.seq (.region false [⟨(some 4), .move (.const (.bool false)), none, false⟩])
 (.ret))
 (.skip)))
 (.seq (.seq (.region false [⟨(some 5), .move (.const (.int .i64 0)), none, false⟩])
 (.block 0 (.loop ac28_L1)))
 (.seq (.region false [⟨(some 4), .move (.const (.bool true)), none, false⟩])
 (.ret))))
theorem text28 : FnText Try.prog 28 [] 26 2 ac28 [(4, none)] :=
 ⟨Try.call28, follows, Try.f28, _, Try.func28, rfl, rfl, by decide, by kernel_rfl, by kernel_rfl⟩

def ac25_L1 : AC :=
 .seq (.region false [⟨(some 21), .bin .lss 3 (.tmp 20) (.tmp 19), none, false⟩])
 (.seq (.cond (.tmp 21)
 (.skip)
 (.exit 0))
 (.seq (.block 1 (.seq (.region false [⟨(some 22), .iaddr 1 (.tmp 18) (.tmp 20), none, false⟩,
 ⟨(some 23), .load 1 false (.tmp 22), none, false⟩,
 ⟨(some 8), .move (.tmp 23), none, false⟩])
 (.seq (.region false [⟨(some 24), .move (.tmp 8), none, false⟩,
 ⟨(some 25), .move (.tmp 2), none, false⟩,
 ⟨(some 26), .bin .eql 3 (.tmp 24) (.tmp 25), none, false⟩])
 (.cond (.tmp 26)
 (.seq (.region false [⟨(some 6), .move (.const (.bool true)), none, false⟩])
 (.ret))
 (.skip)))))
 (.region false [⟨(some 27), .bin .add 3 (.tmp 20) (.const (.int .i64 1)), none, false⟩,
 ⟨(some 20), .move (.tmp 27), none, false⟩])))
/-- patchbay/table.Allows -/
def ac25 : AC :=
 .seq (.region false [⟨(some 3), .box false 31 (.tmp 0), none, false⟩,
 ⟨(some 6), .move (.const (.bool false)), none, false⟩])
 (.seq (.seq (.region false [⟨(some 9), .load 9 true (.tmp 3), none, false⟩,
 ⟨(some 10), .move (.tmp 1), none, false⟩,
 ⟨(some 11), .call (.func 52) [(.tmp 9), (.tmp 10)], none, false⟩,
 ⟨(some 12), .un .not (.tmp 11), none, false⟩])
 (.cond (.tmp 12)
 (.seq (.region false [⟨(some 6), .move (.const (.bool false)), none, false⟩])
 (.ret))
 (.skip)))
 (.seq (.seq (.region false [⟨(some 13), .faddr 5 1 false (.tmp 3), none, false⟩,
 ⟨(some 14), .load 1 false (.tmp 13), none, false⟩,
 ⟨(some 15), .move (.tmp 1), none, false⟩,
 ⟨(some 16), .iaddr 6 (.tmp 14) (.tmp 15), none, false⟩,
 ⟨(some 17), .faddr 2 1 false (.tmp 16), none, false⟩,
 ⟨(some 18), .load 1 false (.tmp 17), none, false⟩,
 ⟨(some 19), .bi .len [29].toArray 3 [(.tmp 18)], none, false⟩,
 ⟨(some 20), .move (.const (.int .i64 0)), none, false⟩])
 (.block 0 (.loop ac25_L1)))
 (.seq (.region false [⟨(some 6), .move (.const (.bool false)), none, false⟩])
 (.ret))))
theorem text25 : FnText Try.prog 25 [] 28 3 ac25 [(6, none)] :=
 ⟨Try.call25, follows, Try.f25, _, Try.func25, rfl, rfl, by decide, by kernel_rfl, by kernel_rfl⟩

def ac15_G1 : List AOper :=
 [⟨(some 35), .move (.tmp 3), (some (34, true)), false⟩,
 ⟨(some 36), .bin .eql 34 (.tmp 35) (.const (.int .i64 0)), (some (34, true)), false⟩,
 ⟨(some 37), .pick (.tmp 34) (.tmp 36) (.const (.bool false)), none, false⟩]
def ac15_G2 : List AOper :=
 [⟨(some 39), .move (.tmp 5), (some (38, true)), false⟩,
 ⟨(some 40), .bin .eql 34 (.tmp 39) (.const (.int .i64 8)), (some (38, true)), false⟩,
 ⟨(some 41), .pick (.tmp 38) (.tmp 40) (.const (.bool false)), none, false⟩]
def ac15_G3 : List AOper :=
 [⟨(some 43), .load 9 true (.tmp 1), (some (42, true)), false⟩,
 ⟨(some 44), .call (.func 18) [(.tmp 43), (.const (.int .i64 0))], (some (42, true)), false⟩,
 ⟨(some 45), .bin .eql 3 (.tmp 44) (.const (.int .i64 3)), (some (42, true)), false⟩,
 ⟨(some 46), .pick (.tmp 42) (.tmp 45) (.const (.bool false)), none, false⟩]
def ac15_G4 : List AOper :=
 [⟨(some 48), .load 9 true (.tmp 1), (some (47, true)), false⟩,
 ⟨(some 49), .call (.func 23) [(.tmp 48), (.const (.int .i64 0))], (some (47, true)), false⟩,
 ⟨(some 50), .bin .eql 3 (.tmp 49) (.const (.int .i64 12)), (some (47, true)), false⟩,
 ⟨(some 51), .pick (.tmp 47) (.tmp 50) (.const (.bool false)), none, false⟩]
def ac15_G5 : List AOper :=
 [⟨(some 53), .load 9 true (.tmp 1), (some (52, true)), false⟩,
 ⟨(some 54), .call (.func 18) [(.tmp 53), (.const (.int .i64 1))], (some (52, true)), false⟩,
 ⟨(some 55), .bin .eql 3 (.tmp 54) (.const (.int .i64 1)), (some (52, true)), false⟩,
 ⟨(some 56), .pick (.tmp 52) (.tmp 55) (.const (.bool false)), none, false⟩]
def ac15_G6 : List AOper :=
 [⟨(some 58), .load 9 true (.tmp 1), (some (57, true)), false⟩,
 ⟨(some 59), .call (.func 23) [(.tmp 58), (.const (.int .i64 1))], (some (57, true)), false⟩,
 ⟨(some 60), .bin .eql 3 (.tmp 59) (.const (.int .i64 0)), (some (57, true)), false⟩,
 ⟨(some 61), .pick (.tmp 57) (.tmp 60) (.const (.bool false)), none, false⟩]
def ac15_G7 : List AOper :=
 [⟨(some 63), .load 9 true (.tmp 1), (some (62, true)), false⟩,
 ⟨(some 64), .bslice false 57 1 false [(.const (.int .u32 7)), (.const (.int .u32 19))], (some (62, true)), false⟩,
 ⟨(some 65), .build [(.slice none 0 0), (.slice none 0 0), (.slice none 0 0), (.slice none 0 0)] [(2, 1, (.tmp 64))], (some (62, true)), false⟩,
 ⟨(some 66), .call (.func 29) [(.tmp 63), (.const (.int .i64 0)), (.tmp 65)], (some (62, true)), false⟩,
 ⟨(some 67), .bslice false 57 1 false [(.const (.int .u32 7)), (.const (.int .u32 3))], (some (62, true)), false⟩,
 ⟨(some 68), .call (.func 28) [(.tmp 66), (.tmp 67)], (some (62, true)), false⟩,
 ⟨(some 69), .pick (.tmp 62) (.tmp 68) (.const (.bool false)), none, false⟩]
def ac15_G8 : List AOper :=
 [⟨(some 71), .load 9 true (.tmp 1), (some (70, true)), false⟩,
 ⟨(some 72), .call (.func 25) [(.tmp 71), (.const (.int .i64 0)), (.const (.int .i64 0))], (some (70, true)), false⟩,
 ⟨(some 73), .pick (.tmp 70) (.tmp 72) (.const (.bool false)), none, false⟩]
def ac15_G9 : List AOper :=
 [⟨(some 75), .load 9 true (.tmp 1), (some (74, true)), false⟩,
 ⟨(some 76), .call (.func 25) [(.tmp 75), (.const (.int .i64 0)), (.const (.int .i64 1))], (some (74, true)), false⟩,
 ⟨(some 77), .un .not (.tmp 76), (some (74, true)), false⟩,
 ⟨(some 78), .pick (.tmp 74) (.tmp 77) (.const (.bool false)), none, false⟩]
/-- patchbay/patchbaylaw17.works -/
def ac15 : AC :=
 .seq (.region false [⟨(some 0), .move (.const (.bool false)), none, false⟩])
 (.seq (.region false [⟨(some 6), .build [(.string ⟨[].toArray⟩), (.int .i64 0)] [(0, 1, (.const (.string ⟨[105, 110].toArray⟩))), (1, 1, (.const (.int .i64 8)))], none, false⟩,
 ⟨(some 7), .build [(.string ⟨[].toArray⟩), (.int .i64 0)] [(0, 1, (.const (.string ⟨[109].toArray⟩))), (1, 1, (.const (.int .i64 4)))], none, false⟩,
 ⟨(some 8), .bslice false 65 2 false [(.tmp 6), (.tmp 7)], none, false⟩,
 ⟨(some 9), .build [(.string ⟨[].toArray⟩), (.slice none 0 0), (.slice none 0 0)] [(0, 1, (.const (.string ⟨[110, 111, 112].toArray⟩)))], none, false⟩,
 ⟨(some 10), .bslice false 95 3 false [(.tmp 9)], none, false⟩,
 ⟨(some 11), .build [(.int .i64 0), (.int .i64 0)] [(0, 1, (.const (.int .i64 (-1))))], none, false⟩,
 ⟨(some 12), .build [(.int .i64 0), (.int .i64 0), (.int .i64 0)] [(0, 2, (.tmp 11)), (2, 1, (.const (.int .i64 1)))], none, false⟩,
 ⟨(some 13), .build [(.int .i64 0), (.int .i64 0)] [(0, 1, (.const (.int .i64 (-1)))), (1, 1, (.const (.int .i64 1)))], none, false⟩,
 ⟨(some 14), .build [(.int .i64 0), (.int .i64 0), (.int .i64 0)] [(0, 2, (.tmp 13)), (2, 1, (.const (.int .i64 3)))], none, false⟩,
 ⟨(some 15), .bslice false 62 3 false [(.tmp 12), (.tmp 14)], none, false⟩,
 ⟨(some 16), .bslice false 3 1 false [(.const (.int .i64 0))], none, false⟩,
 ⟨(some 17), .build [(.string ⟨[].toArray⟩), (.slice none 0 0), (.slice none 0 0), (.int .i64 0), (.slice none 0 0), (.int .i64 0)] [(0, 1, (.const (.string ⟨[116].toArray⟩))), (1, 1, (.tmp 15)), (2, 1, (.tmp 16)), (5, 1, (.const (.int .i64 4)))], none, false⟩,
 ⟨(some 18), .bslice false 3 1 false [(.const (.int .i64 0))], none, false⟩,
 ⟨(some 19), .build [(.string ⟨[].toArray⟩), (.slice none 0 0), (.slice none 0 0), (.int .i64 0), (.slice none 0 0), (.int .i64 0)] [(0, 1, (.const (.string ⟨[117].toArray⟩))), (2, 1, (.tmp 18)), (5, 1, (.const (.int .i64 1)))], none, false⟩,
 ⟨(some 20), .bslice false 56 6 false [(.tmp 17), (.tmp 19)], none, false⟩,
 ⟨(some 21), .build [(.string ⟨[].toArray⟩), (.slice none 0 0), (.slice none 0 0), (.slice none 0 0), (.slice none 0 0), (.slice none 0 0), (.slice none 0 0), (.slice none 0 0), (.slice none 0 0)] [(2, 1, (.tmp 8)), (4, 1, (.tmp 10)), (5, 1, (.tmp 20))], none, false⟩,
 ⟨(some 1), .alloc true 31 (.agg [(.string ⟨[].toArray⟩), (.slice none 0 0), (.slice none 0 0), (.slice none 0 0), (.slice none 0 0), (.slice none 0 0), (.slice none 0 0), (.slice none 0 0), (.slice none 0 0)].toArray), none, false⟩,
 ⟨none, .store 9 (.tmp 1) (.tmp 21), none, false⟩])
 (.seq (.region false [⟨(some 23), .load 9 true (.tmp 1), none, false⟩,
 ⟨(some 24), .call (.func 16) [(.tmp 23), (.const (.int .i64 0))], none, false⟩,
 ⟨(some 22), .move (.tmp 24), none, false⟩,
 ⟨(some 25), .extract (.tmp 22) 0, none, false⟩,
 ⟨(some 26), .extract (.tmp 22) 1, none, false⟩,
 ⟨(some 2), .move (.tmp 25), none, false⟩,
 ⟨(some 3), .move (.tmp 26), none, false⟩])
 (.seq (.region false [⟨(some 28), .load 9 true (.tmp 1), none, false⟩,
 ⟨(some 29), .call (.func 16) [(.tmp 28), (.const (.int .i64 2))], none, false⟩,
 ⟨(some 27), .move (.tmp 29), none, false⟩,
 ⟨(some 30), .extract (.tmp 27) 0, none, false⟩,
 ⟨(some 31), .extract (.tmp 27) 1, none, false⟩,
 ⟨(some 4), .move (.tmp 30), none, false⟩,
 ⟨(some 5), .move (.tmp 31), none, false⟩])
 (.seq (.region false (⟨(some 32), .move (.tmp 2), none, false⟩ :: ⟨(some 33), .bin .eql 3 (.tmp 32) (.const (.int .i64 0)), none, false⟩ :: ⟨(some 34), .move (.tmp 33), none, false⟩ :: (ac15_G1 ++ (⟨(some 38), .move (.tmp 37), none, false⟩ :: (ac15_G2 ++ (⟨(some 42), .move (.tmp 41), none, false⟩ :: (ac15_G3 ++ (⟨(some 47), .move (.tmp 46), none, false⟩ :: (ac15_G4 ++ (⟨(some 52), .move (.tmp 51), none, false⟩ :: (ac15_G5 ++ (⟨(some 57), .move (.tmp 56), none, false⟩ :: (ac15_G6 ++ (⟨(some 62), .move (.tmp 61), none, false⟩ :: (ac15_G7 ++ (⟨(some 70), .move (.tmp 69), none, false⟩ :: (ac15_G8 ++ (⟨(some 74), .move (.tmp 73), none, false⟩ :: (ac15_G9 ++ [⟨(some 0), .move (.tmp 78), none, false⟩])))))))))))))))))))
 (.ret)))))
theorem text15 : FnText Try.prog 15 [1] 79 0 ac15 [(0, none)] :=
 ⟨Try.call15, follows, Try.f15, _, Try.func15, rfl, rfl, by decide, by kernel_rfl, by kernel_rfl⟩

def ac60_G1 : List AOper :=
 [⟨(some 6), .move (.tmp 0), (some (5, true)), false⟩,
 ⟨(some 7), .bin .leq 3 (.tmp 6) (.const (.int .i64 32)), (some (5, true)), false⟩,
 ⟨(some 8), .pick (.tmp 5) (.tmp 7) (.const (.bool false)), none, false⟩]
/-- patchbay/patchbayref01.valid -/
def ac60 : AC :=
 .seq (.region false [⟨(some 2), .move (.const (.bool false)), none, false⟩])
 (.seq (.region false (⟨(some 3), .move (.tmp 0), none, false⟩ :: ⟨(some 4), .bin .geq 3 (.tmp 3) (.const (.int .i64 1)), none, false⟩ :: ⟨(some 5), .move (.tmp 4), none, false⟩ :: (ac60_G1 ++ [⟨(some 2), .move (.tmp 8), none, false⟩])))
 (.ret))
theorem text60 : FnText Try.prog 60 [] 9 1 ac60 [(2, none)] :=
 ⟨Try.call60, follows, Try.f60, _, Try.func60, rfl, rfl, by decide, by kernel_rfl, by kernel_rfl⟩

def ac61_L1 : AC :=
 .seq (.seq (.region false [⟨(some 5), .move (.tmp 4), none, false⟩,
 ⟨(some 6), .move (.tmp 0), none, false⟩,
 ⟨(some 7), .bin .lss 3 (.tmp 5) (.tmp 6), none, false⟩])
 (.cond (.tmp 7)
 (.skip)
 (.exit 0)))
 (.seq (.block 1 (.region false [⟨(some 10), .move (.tmp 3), none, false⟩,
 ⟨(some 11), .bin .mul 106 (.const (.int .u64 2)) (.tmp 10), none, false⟩,
 ⟨(some 3), .move (.tmp 11), none, false⟩]))
 (.region false [⟨(some 8), .move (.tmp 4), none, false⟩,
 ⟨(some 9), .bin .add 3 (.tmp 8) (.const (.int .i64 1)), none, false⟩,
 ⟨(some 4), .move (.tmp 9), none, false⟩]))
/-- patchbay/patchbayref01.power -/
def ac61 : AC :=
 .seq (.region false [⟨(some 2), .move (.const (.int .u64 0)), none, false⟩])
 (.seq (.region false [⟨(some 3), .move (.const (.int .u64 1)), none, false⟩])
 (.seq (.seq (.region false [⟨(some 4), .move (.const (.int .i64 0)), none, false⟩])
 (.block 0 (.loop ac61_L1)))
 (.seq (.region false [⟨(some 12), .move (.tmp 3), none, false⟩,
 ⟨(some 2), .move (.tmp 12), none, false⟩])
 (.ret))))
theorem text61 : FnText Try.prog 61 [] 13 1 ac61 [(2, none)] :=
 ⟨Try.call61, follows, Try.f61, _, Try.func61, rfl, rfl, by decide, by kernel_rfl, by kernel_rfl⟩


/-- patchbay/patchbayref01.Mask -/
def ac31 : AC :=
 .seq (.region false [⟨(some 2), .move (.const (.int .u32 0)), none, false⟩])
 (.seq (.seq (.region false [⟨(some 3), .move (.tmp 0), none, false⟩,
 ⟨(some 4), .call (.func 60) [(.tmp 3)], none, false⟩,
 ⟨(some 5), .un .not (.tmp 4), none, false⟩])
 (.cond (.tmp 5)
 (.seq (.region false [⟨(some 2), .move (.const (.int .u32 0)), none, false⟩])
 (.ret))
 (.skip)))
 (.seq (.region false [⟨(some 6), .move (.tmp 0), none, false⟩,
 ⟨(some 7), .call (.func 61) [(.tmp 6)], none, false⟩,
 ⟨(some 8), .bin .sub 106 (.tmp 7) (.const (.int .u64 1)), none, false⟩,
 ⟨(some 9), .conv 106 57 (.tmp 8), none, false⟩,
 ⟨(some 2), .move (.tmp 9), none, false⟩])
 (.ret)))
theorem text31 : FnText Try.prog 31 [] 10 1 ac31 [(2, none)] :=
 ⟨Try.call31, follows, Try.f31, _, Try.func31, rfl, rfl, by decide, by kernel_rfl, by kernel_rfl⟩

def ac7_G1 : List AOper :=
 [⟨(some 26), .load 4 true (.tmp 4), (some (25, false)), false⟩,
 ⟨(some 27), .call (.func 27) [(.tmp 26)], (some (25, false)), false⟩,
 ⟨(some 28), .un .not (.tmp 27), (some (25, false)), false⟩,
 ⟨(some 29), .pick (.tmp 25) (.const (.bool true)) (.tmp 28), none, false⟩]
def ac7_G2 : List AOper :=
 [⟨(some 31), .move (.tmp 8), (some (30, false)), false⟩,
 ⟨(some 32), .faddr 2 1 false (.tmp 4), (some (30, false)), false⟩,
 ⟨(some 33), .load 1 false (.tmp 32), (some (30, false)), false⟩,
 ⟨(some 34), .bi .len [44].toArray 3 [(.tmp 33)], (some (30, false)), false⟩,
 ⟨(some 35), .bin .geq 3 (.tmp 31) (.tmp 34), (some (30, false)), false⟩,
 ⟨(some 36), .pick (.tmp 30) (.const (.bool true)) (.tmp 35), none, false⟩]
def ac7_G3 : List AOper :=
 [⟨(some 38), .move (.tmp 8), (some (37, false)), false⟩,
 ⟨(some 39), .faddr 2 1 false (.tmp 3), (some (37, false)), false⟩,
 ⟨(some 40), .load 1 false (.tmp 39), (some (37, false)), false⟩,
 ⟨(some 41), .bi .len [23].toArray 3 [(.tmp 40)], (some (37, false)), false⟩,
 ⟨(some 42), .bin .geq 3 (.tmp 38) (.tmp 41), (some (37, false)), false⟩,
 ⟨(some 43), .pick (.tmp 37) (.const (.bool true)) (.tmp 42), none, false⟩]
def ac7_G5 : List AOper :=
 [⟨(some 75), .move (.tmp 11), (some (74, true)), false⟩,
 ⟨(some 76), .bi .len [44].toArray 3 [(.tmp 75)], (some (74, true)), false⟩,
 ⟨(some 77), .faddr 5 1 false (.tmp 3), (some (74, true)), false⟩,
 ⟨(some 78), .load 1 false (.tmp 77), (some (74, true)), false⟩,
 ⟨(some 79), .move (.tmp 7), (some (74, true)), false⟩,
 ⟨(some 80), .iaddr 6 (.tmp 78) (.tmp 79), (some (74, true)), false⟩,
 ⟨(some 81), .faddr 1 1 false (.tmp 80), (some (74, true)), false⟩,
 ⟨(some 82), .load 1 false (.tmp 81), (some (74, true)), false⟩,
 ⟨(some 83), .bi .len [52].toArray 3 [(.tmp 82)], (some (74, true)), false⟩,
 ⟨(some 84), .bin .neq 3 (.tmp 76) (.tmp 83), (some (74, true)), false⟩,
 ⟨(some 85), .pick (.tmp 74) (.tmp 84) (.const (.bool false)), (some (70, false)), false⟩]
def ac7_G4 : List AOper :=
 (⟨(some 71), .move (.tmp 11), (some (70, false)), false⟩ :: ⟨(some 72), .bi .len [44].toArray 3 [(.tmp 71)], (some (70, false)), false⟩ :: ⟨(some 73), .bin .gtr 3 (.tmp 72) (.const (.int .i64 0)), (some (70, false)), false⟩ :: ⟨(some 74), .move (.tmp 73), (some (70, false)), false⟩ :: (ac7_G5 ++ [⟨(some 86), .pick (.tmp 70) (.const (.bool true)) (.tmp 85), none, false⟩]))
def ac7_L1 : AC :=
 .seq (.seq (.region false [⟨(some 87), .move (.tmp 12), none, false⟩,
 ⟨(some 88), .move (.tmp 11), none, false⟩,
 ⟨(some 89), .bi .len [44].toArray 3 [(.tmp 88)], none, false⟩,
 ⟨(some 90), .bin .lss 3 (.tmp 87) (.tmp 89), none, false⟩])
 (.cond (.tmp 90)
 (.skip)
 (.exit 0)))
 (.seq (.block 1 (.seq (.region false [⟨(some 93), .move (.tmp 9), none, false⟩,
 ⟨(some 94), .move (.tmp 12), none, false⟩,
 ⟨(some 95), .iaddr 1 (.tmp 93) (.tmp 94), none, false⟩,
 ⟨(some 96), .load 1 false (.tmp 95), none, false⟩,
 ⟨(some 13), .move (.tmp 96), none, false⟩])
 (.seq (.seq (.region false [⟨(some 97), .faddr 5 1 false (.tmp 3), none, false⟩,
 ⟨(some 98), .load 1 false (.tmp 97), none, false⟩,
 ⟨(some 99), .move (.tmp 7), none, false⟩,
 ⟨(some 100), .iaddr 6 (.tmp 98) (.tmp 99), none, false⟩,
 ⟨(some 101), .faddr 1 1 false (.tmp 100), none, false⟩,
 ⟨(some 102), .load 1 false (.tmp 101), none, false⟩,
 ⟨(some 103), .move (.tmp 12), none, false⟩,
 ⟨(some 104), .iaddr 3 (.tmp 102) (.tmp 103), none, false⟩,
 ⟨(some 105), .faddr 0 2 true (.tmp 104), none, false⟩,
 ⟨(some 106), .load 2 true (.tmp 105), none, false⟩,
 ⟨(some 107), .move (.tmp 8), none, false⟩,
 ⟨(some 108), .build [(.int .i64 0), (.int .i64 0)] [(0, 1, (.const (.int .i64 (-1)))), (1, 1, (.tmp 107))], none, false⟩,
 ⟨(some 109), .bin .eql 60 (.tmp 106) (.tmp 108), none, false⟩])
 (.cond (.tmp 109)
 (.region true [⟨(some 110), .iaddrA 3 1 false (.tmp 5) (.const (.int .i64 2)), none, false⟩,
 ⟨(some 111), .load 1 false (.tmp 110), none, false⟩,
 ⟨(some 112), .faddr 2 1 false (.tmp 3), none, false⟩,
 ⟨(some 113), .load 1 false (.tmp 112), none, false⟩,
 ⟨(some 114), .move (.tmp 8), none, false⟩,
 ⟨(some 115), .iaddr 2 (.tmp 113) (.tmp 114), none, false⟩,
 ⟨(some 116), .faddr 1 1 false (.tmp 115), none, false⟩,
 ⟨(some 117), .load 1 false (.tmp 116), none, false⟩,
 ⟨(some 118), .call (.func 31) [(.tmp 117)], none, false⟩,
 ⟨(some 119), .bin .and 57 (.tmp 111) (.tmp 118), none, false⟩,
 ⟨(some 13), .move (.tmp 119), none, false⟩])
 (.skip)))
 (.seq (.region false [⟨(some 120), .move (.tmp 11), none, false⟩,
 ⟨(some 121), .move (.tmp 12), none, false⟩,
 ⟨(some 122), .iaddr 1 (.tmp 120) (.tmp 121), none, false⟩,
 ⟨(some 123), .load 1 false (.tmp 122), none, false⟩,
 ⟨(some 124), .move (.tmp 13), none, false⟩,
 ⟨(some 125), .bin .neq 57 (.tmp 123) (.tmp 124), none, false⟩])
 (.cond (.tmp 125)
 (.seq (.region false [⟨(some 6), .move (.const (.bool false)), none, false⟩])
 (.ret))
 (.skip))))))
 (.region false [⟨(some 91), .move (.tmp 12), none, false⟩,
 ⟨(some 92), .bin .add 3 (.tmp 91) (.const (.int .i64 1)), none, false⟩,
 ⟨(some 12), .move (.tmp 92), none, false⟩]))
/-- patchbay/patchbaylaw17.TableKeyOf -/
def ac7 : AC :=
 .seq (.region false [⟨(some 3), .box false 31 (.tmp 0), none, false⟩,
 ⟨(some 4), .box false 47 (.tmp 1), none, false⟩,
 ⟨(some 5), .box false 58 (.tmp 2), none, false⟩,
 ⟨(some 6), .move (.const (.bool false)), none, false⟩])
 (.seq (.region true [⟨(some 14), .iaddrA 3 1 false (.tmp 5) (.const (.int .i64 0)), none, false⟩,
 ⟨(some 15), .load 1 false (.tmp 14), none, false⟩,
 ⟨(some 16), .bin .rem 57 (.tmp 15) (.const (.int .u32 16)), none, false⟩,
 ⟨(some 17), .conv 57 3 (.tmp 16), none, false⟩,
 ⟨(some 18), .iaddrA 3 1 false (.tmp 5) (.const (.int .i64 1)), none, false⟩,
 ⟨(some 19), .load 1 false (.tmp 18), none, false⟩,
 ⟨(some 20), .bin .rem 57 (.tmp 19) (.const (.int .u32 16)), none, false⟩,
 ⟨(some 21), .conv 57 3 (.tmp 20), none, false⟩,
 ⟨(some 7), .move (.tmp 17), none, false⟩,
 ⟨(some 8), .move (.tmp 21), none, false⟩])
 (.seq (.seq (.region false (⟨(some 22), .load 9 true (.tmp 3), none, false⟩ :: ⟨(some 23), .call (.func 14) [(.tmp 22)], none, false⟩ :: ⟨(some 24), .un .not (.tmp 23), none, false⟩ :: ⟨(some 25), .move (.tmp 24), none, false⟩ :: (ac7_G1 ++ (⟨(some 30), .move (.tmp 29), none, false⟩ :: (ac7_G2 ++ (⟨(some 37), .move (.tmp 36), none, false⟩ :: (ac7_G3 ++ [])))))))
 (.cond (.tmp 43)
 (.seq (.region false [⟨(some 44), .call (.func 15) [], none, false⟩,
 ⟨(some 6), .move (.tmp 44), none, false⟩])
 (.ret))
 (.skip)))
 (.seq (.region false [⟨(some 45), .load 9 true (.tmp 3), none, false⟩,
 ⟨(some 46), .move (.tmp 7), none, false⟩,
 ⟨(some 47), .load 4 true (.tmp 4), none, false⟩,
 ⟨(some 48), .call (.func 29) [(.tmp 45), (.tmp 46), (.tmp 47)], none, false⟩,
 ⟨(some 9), .move (.tmp 48), none, false⟩])
 (.seq (.region false [⟨(some 49), .load 4 true (.tmp 4), none, false⟩,
 ⟨(some 10), .alloc true 47 (.agg [(.slice none 0 0), (.slice none 0 0), (.slice none 0 0), (.slice none 0 0)].toArray), none, false⟩,
 ⟨none, .store 4 (.tmp 10) (.tmp 49), none, false⟩])
 (.seq (.region false [⟨(some 50), .bslice false 57 1 false [], none, false⟩,
 ⟨(some 51), .faddr 2 1 false (.tmp 4), none, false⟩,
 ⟨(some 52), .load 1 false (.tmp 51), none, false⟩,
 ⟨(some 53), .append 44 57 1 4 (.tmp 50) (.tmp 52), none, false⟩,
 ⟨(some 54), .faddr 2 1 false (.tmp 10), none, false⟩,
 ⟨none, .store 1 (.tmp 54) (.tmp 53), none, false⟩])
 (.seq (.region false [⟨(some 55), .faddr 2 1 false (.tmp 10), none, false⟩,
 ⟨(some 56), .load 1 false (.tmp 55), none, false⟩,
 ⟨(some 57), .move (.tmp 8), none, false⟩,
 ⟨(some 58), .iaddrA 3 1 false (.tmp 5) (.const (.int .i64 2)), none, false⟩,
 ⟨(some 59), .load 1 false (.tmp 58), none, false⟩,
 ⟨(some 60), .iaddr 1 (.tmp 56) (.tmp 57), none, false⟩,
 ⟨none, .store 1 (.tmp 60) (.tmp 59), none, false⟩])
 (.seq (.region false [⟨(some 61), .load 9 true (.tmp 3), none, false⟩,
 ⟨(some 62), .move (.tmp 7), none, false⟩,
 ⟨(some 63), .load 4 true (.tmp 10), none, false⟩,
 ⟨(some 64), .call (.func 29) [(.tmp 61), (.tmp 62), (.tmp 63)], none, false⟩,
 ⟨(some 11), .move (.tmp 64), none, false⟩])
 (.seq (.seq (.region false (⟨(some 65), .move (.tmp 9), none, false⟩ :: ⟨(some 66), .bi .len [44].toArray 3 [(.tmp 65)], none, false⟩ :: ⟨(some 67), .move (.tmp 11), none, false⟩ :: ⟨(some 68), .bi .len [44].toArray 3 [(.tmp 67)], none, false⟩ :: ⟨(some 69), .bin .neq 3 (.tmp 66) (.tmp 68), none, false⟩ :: ⟨(some 70), .move (.tmp 69), none, false⟩ :: (ac7_G4 ++ [])))
 (.cond (.tmp 86)
 (.seq (.region false [⟨(some 6), .move (.const (.bool false)), none, false⟩])
 (.ret))
 (.skip)))
 (.seq (.seq (.region false [⟨(some 12), .move (.const (.int .i64 0)), none, false⟩])
 (.block 0 (.loop ac7_L1)))
 (.seq (.region false [⟨(some 126), .call (.func 15) [], none, false⟩,
 ⟨(some 6), .move (.tmp 126), none, false⟩])
 (.ret)))))))))))
theorem text7 : FnText Try.prog 7 [10] 127 3 ac7 [(6, none)] :=
 ⟨Try.call7, follows, Try.f7, _, Try.func7, rfl, rfl, by decide, by kernel_rfl, by kernel_rfl⟩

end Go.Proofs.Ytklfdkbemkommaa
