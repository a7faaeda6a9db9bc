/-
 The text of each function of this seat, as the plain library tells it; each by the kernel's own reckoning from the program.
-/
import Derived.Test.YtepkgeppmjmkjaaGreatL3TextA
set_option linter.unusedVariables false
set_option maxRecDepth 100000
namespace Go.Proofs.YtepkgeppmjmkjaaGreat
open Go Go.Pb
def ac75_G1 : List AOper :=
 [⟨(some 21), .move (.tmp 0), (some (20, true)), false⟩,
 ⟨(some 22), .move (.tmp 7), (some (20, true)), false⟩,
 ⟨(some 23), .iaddr 1 (.tmp 21) (.tmp 22), (some (20, true)), false⟩,
 ⟨(some 24), .load 1 false (.tmp 23), (some (20, true)), false⟩,
 ⟨(some 25), .move (.tmp 0), (some (20, true)), false⟩,
 ⟨(some 26), .move (.tmp 7), (some (20, true)), false⟩,
 ⟨(some 27), .bin .sub 3 (.tmp 26) (.const (.int .i64 1)), (some (20, true)), false⟩,
 ⟨(some 28), .iaddr 1 (.tmp 25) (.tmp 27), (some (20, true)), false⟩,
 ⟨(some 29), .load 1 false (.tmp 28), (some (20, true)), false⟩,
 ⟨(some 30), .call (.func 76) [(.tmp 24), (.tmp 29)], (some (20, true)), false⟩,
 ⟨(some 31), .un .not (.tmp 30), (some (20, true)), false⟩,
 ⟨(some 32), .pick (.tmp 20) (.tmp 31) (.const (.bool false)), none, false⟩]
def ac75_L2 : AC :=
 .seq (.seq (.region true (⟨(some 17), .move (.tmp 7), none, false⟩ :: ⟨(some 18), .move (.tmp 2), none, false⟩ :: ⟨(some 19), .bin .lss 3 (.tmp 17) (.tmp 18), none, false⟩ :: ⟨(some 20), .move (.tmp 19), none, false⟩ :: (ac75_G1 ++ [])))
 (.cond (.tmp 32)
 (.skip)
 (.exit 2)))
 (.block 3 (.region false [⟨(some 33), .move (.tmp 7), none, false⟩,
 ⟨(some 34), .bin .add 3 (.tmp 33) (.const (.int .i64 1)), none, false⟩,
 ⟨(some 7), .move (.tmp 34), none, false⟩]))
def ac75_L3 : AC :=
 .seq (.seq (.region false [⟨(some 64), .move (.tmp 9), none, false⟩,
 ⟨(some 65), .bin .geq 3 (.tmp 64) (.const (.int .i64 1)), none, false⟩])
 (.cond (.tmp 65)
 (.skip)
 (.exit 4)))
 (.seq (.block 5 (.seq (.seq (.region true [⟨(some 68), .move (.tmp 0), none, false⟩,
 ⟨(some 69), .move (.tmp 9), none, false⟩,
 ⟨(some 70), .iaddr 1 (.tmp 68) (.tmp 69), none, false⟩,
 ⟨(some 71), .load 1 false (.tmp 70), none, false⟩,
 ⟨(some 72), .move (.tmp 0), none, false⟩,
 ⟨(some 73), .move (.tmp 9), none, false⟩,
 ⟨(some 74), .bin .sub 3 (.tmp 73) (.const (.int .i64 1)), none, false⟩,
 ⟨(some 75), .iaddr 1 (.tmp 72) (.tmp 74), none, false⟩,
 ⟨(some 76), .load 1 false (.tmp 75), none, false⟩,
 ⟨(some 77), .call (.func 76) [(.tmp 71), (.tmp 76)], none, false⟩,
 ⟨(some 78), .un .not (.tmp 77), none, false⟩])
 (.cond (.tmp 78)
 (.exit 4)
 (.skip)))
 (.region true [⟨(some 79), .move (.tmp 0), none, false⟩,
 ⟨(some 80), .move (.tmp 9), none, false⟩,
 ⟨(some 81), .move (.tmp 0), none, true⟩,
 ⟨(some 82), .move (.tmp 9), none, true⟩,
 ⟨(some 83), .bin .sub 3 (.tmp 82) (.const (.int .i64 1)), none, true⟩,
 ⟨(some 84), .move (.tmp 0), none, false⟩,
 ⟨(some 85), .move (.tmp 9), none, false⟩,
 ⟨(some 86), .bin .sub 3 (.tmp 85) (.const (.int .i64 1)), none, false⟩,
 ⟨(some 87), .iaddr 1 (.tmp 84) (.tmp 86), none, false⟩,
 ⟨(some 88), .load 1 false (.tmp 87), none, false⟩,
 ⟨(some 89), .move (.tmp 0), none, false⟩,
 ⟨(some 90), .move (.tmp 9), none, false⟩,
 ⟨(some 91), .iaddr 1 (.tmp 89) (.tmp 90), none, false⟩,
 ⟨(some 92), .load 1 false (.tmp 91), none, false⟩,
 ⟨(some 93), .iaddr 1 (.tmp 79) (.tmp 80), none, false⟩,
 ⟨none, .store 1 (.tmp 93) (.tmp 88), none, false⟩,
 ⟨(some 94), .iaddr 1 (.tmp 81) (.tmp 83), none, false⟩,
 ⟨none, .store 1 (.tmp 94) (.tmp 92), none, false⟩])))
 (.region false [⟨(some 66), .move (.tmp 9), none, false⟩,
 ⟨(some 67), .bin .sub 3 (.tmp 66) (.const (.int .i64 1)), none, false⟩,
 ⟨(some 9), .move (.tmp 67), none, false⟩]))
def ac75_L4 : AC :=
 .seq (.seq (.region false [⟨(some 101), .move (.tmp 10), none, false⟩,
 ⟨(some 102), .move (.tmp 2), none, false⟩,
 ⟨(some 103), .bin .lss 3 (.tmp 101) (.tmp 102), none, false⟩])
 (.cond (.tmp 103)
 (.skip)
 (.exit 6)))
 (.seq (.block 7 (.seq (.seq (.region true [⟨(some 106), .move (.tmp 0), none, false⟩,
 ⟨(some 107), .move (.tmp 10), none, false⟩,
 ⟨(some 108), .iaddr 1 (.tmp 106) (.tmp 107), none, false⟩,
 ⟨(some 109), .load 1 false (.tmp 108), none, false⟩,
 ⟨(some 110), .move (.tmp 0), none, false⟩,
 ⟨(some 111), .move (.tmp 10), none, false⟩,
 ⟨(some 112), .bin .sub 3 (.tmp 111) (.const (.int .i64 1)), none, false⟩,
 ⟨(some 113), .iaddr 1 (.tmp 110) (.tmp 112), none, false⟩,
 ⟨(some 114), .load 1 false (.tmp 113), none, false⟩,
 ⟨(some 115), .call (.func 76) [(.tmp 109), (.tmp 114)], none, false⟩,
 ⟨(some 116), .un .not (.tmp 115), none, false⟩])
 (.cond (.tmp 116)
 (.exit 6)
 (.skip)))
 (.region true [⟨(some 117), .move (.tmp 0), none, false⟩,
 ⟨(some 118), .move (.tmp 10), none, false⟩,
 ⟨(some 119), .move (.tmp 0), none, true⟩,
 ⟨(some 120), .move (.tmp 10), none, true⟩,
 ⟨(some 121), .bin .sub 3 (.tmp 120) (.const (.int .i64 1)), none, true⟩,
 ⟨(some 122), .move (.tmp 0), none, false⟩,
 ⟨(some 123), .move (.tmp 10), none, false⟩,
 ⟨(some 124), .bin .sub 3 (.tmp 123) (.const (.int .i64 1)), none, false⟩,
 ⟨(some 125), .iaddr 1 (.tmp 122) (.tmp 124), none, false⟩,
 ⟨(some 126), .load 1 false (.tmp 125), none, false⟩,
 ⟨(some 127), .move (.tmp 0), none, false⟩,
 ⟨(some 128), .move (.tmp 10), none, false⟩,
 ⟨(some 129), .iaddr 1 (.tmp 127) (.tmp 128), none, false⟩,
 ⟨(some 130), .load 1 false (.tmp 129), none, false⟩,
 ⟨(some 131), .iaddr 1 (.tmp 117) (.tmp 118), none, false⟩,
 ⟨none, .store 1 (.tmp 131) (.tmp 126), none, false⟩,
 ⟨(some 132), .iaddr 1 (.tmp 119) (.tmp 121), none, false⟩,
 ⟨none, .store 1 (.tmp 132) (.tmp 130), none, false⟩])))
 (.region false [⟨(some 104), .move (.tmp 10), none, false⟩,
 ⟨(some 105), .bin .add 3 (.tmp 104) (.const (.int .i64 1)), none, false⟩,
 ⟨(some 10), .move (.tmp 105), none, false⟩]))
def ac75_L1 : AC :=
 .seq (.seq (.region false [⟨(some 13), .move (.tmp 8), none, false⟩,
 ⟨(some 14), .bin .lss 3 (.tmp 13) (.const (.int .i64 5)), none, false⟩])
 (.cond (.tmp 14)
 (.skip)
 (.exit 0)))
 (.seq (.block 1 (.seq (.block 2 (.loop ac75_L2))
 (.seq (.seq (.region false [⟨(some 35), .move (.tmp 7), none, false⟩,
 ⟨(some 36), .move (.tmp 2), none, false⟩,
 ⟨(some 37), .bin .eql 3 (.tmp 35) (.tmp 36), none, false⟩])
 (.cond (.tmp 37)
 (.seq (.region false [⟨(some 6), .move (.const (.bool true)), none, false⟩])
 (.ret))
 (.skip)))
 (.seq (.seq (.region false [⟨(some 38), .move (.tmp 2), none, false⟩,
 ⟨(some 39), .move (.tmp 1), none, false⟩,
 ⟨(some 40), .bin .sub 3 (.tmp 38) (.tmp 39), none, false⟩,
 ⟨(some 41), .bin .lss 3 (.tmp 40) (.const (.int .i64 50)), none, false⟩])
 (.cond (.tmp 41)
 (.seq (.region false [⟨(some 6), .move (.const (.bool false)), none, false⟩])
 (.ret))
 (.skip)))
 (.seq (.region true [⟨(some 42), .move (.tmp 0), none, false⟩,
 ⟨(some 43), .move (.tmp 7), none, false⟩,
 ⟨(some 44), .move (.tmp 0), none, true⟩,
 ⟨(some 45), .move (.tmp 7), none, true⟩,
 ⟨(some 46), .bin .sub 3 (.tmp 45) (.const (.int .i64 1)), none, true⟩,
 ⟨(some 47), .move (.tmp 0), none, false⟩,
 ⟨(some 48), .move (.tmp 7), none, false⟩,
 ⟨(some 49), .bin .sub 3 (.tmp 48) (.const (.int .i64 1)), none, false⟩,
 ⟨(some 50), .iaddr 1 (.tmp 47) (.tmp 49), none, false⟩,
 ⟨(some 51), .load 1 false (.tmp 50), none, false⟩,
 ⟨(some 52), .move (.tmp 0), none, false⟩,
 ⟨(some 53), .move (.tmp 7), none, false⟩,
 ⟨(some 54), .iaddr 1 (.tmp 52) (.tmp 53), none, false⟩,
 ⟨(some 55), .load 1 false (.tmp 54), none, false⟩,
 ⟨(some 56), .iaddr 1 (.tmp 42) (.tmp 43), none, false⟩,
 ⟨none, .store 1 (.tmp 56) (.tmp 51), none, false⟩,
 ⟨(some 57), .iaddr 1 (.tmp 44) (.tmp 46), none, false⟩,
 ⟨none, .store 1 (.tmp 57) (.tmp 55), none, false⟩])
 (.seq (.seq (.region false [⟨(some 58), .move (.tmp 7), none, false⟩,
 ⟨(some 59), .move (.tmp 1), none, false⟩,
 ⟨(some 60), .bin .sub 3 (.tmp 58) (.tmp 59), none, false⟩,
 ⟨(some 61), .bin .geq 3 (.tmp 60) (.const (.int .i64 2)), none, false⟩])
 (.cond (.tmp 61)
 (.seq (.region false [⟨(some 62), .move (.tmp 7), none, false⟩,
 ⟨(some 63), .bin .sub 3 (.tmp 62) (.const (.int .i64 1)), none, false⟩,
 ⟨(some 9), .move (.tmp 63), none, false⟩])
 (.block 4 (.loop ac75_L3)))
 (.skip)))
 (.seq (.region false [⟨(some 95), .move (.tmp 2), none, false⟩,
 ⟨(some 96), .move (.tmp 7), none, false⟩,
 ⟨(some 97), .bin .sub 3 (.tmp 95) (.tmp 96), none, false⟩,
 ⟨(some 98), .bin .geq 3 (.tmp 97) (.const (.int .i64 2)), none, false⟩])
 (.cond (.tmp 98)
 (.seq (.region false [⟨(some 99), .move (.tmp 7), none, false⟩,
 ⟨(some 100), .bin .add 3 (.tmp 99) (.const (.int .i64 1)), none, false⟩,
 ⟨(some 10), .move (.tmp 100), none, false⟩])
 (.block 6 (.loop ac75_L4)))
 (.skip)))))))))
 (.region false [⟨(some 15), .move (.tmp 8), none, false⟩,
 ⟨(some 16), .bin .add 3 (.tmp 15) (.const (.int .i64 1)), none, false⟩,
 ⟨(some 8), .move (.tmp 16), none, false⟩]))
/-- slices.partialInsertionSortOrdered[int] -/
def ac75 : AC :=
 .seq (.region false [⟨(some 6), .move (.const (.bool false)), none, false⟩])
 (.seq (.region false [⟨(some 11), .move (.tmp 1), none, false⟩,
 ⟨(some 12), .bin .add 3 (.tmp 11) (.const (.int .i64 1)), none, false⟩,
 ⟨(some 7), .move (.tmp 12), none, false⟩])
 (.seq (.seq (.region false [⟨(some 8), .move (.const (.int .i64 0)), none, false⟩])
 (.block 0 (.loop ac75_L1)))
 (.seq (.region false [⟨(some 6), .move (.const (.bool false)), none, false⟩])
 (.ret))))
theorem text75 : FnText Tryz.prog 75 [] 133 3 ac75 [(6, none)] :=
 ⟨Tryz.call75, follows, Tryz.f75, _, Tryz.func75, rfl, rfl, by decide, by kernel_rfl, by kernel_rfl⟩

def ac77_G1 : List AOper :=
 [⟨(some 33), .move (.tmp 0), (some (32, true)), false⟩,
 ⟨(some 34), .move (.tmp 1), (some (32, true)), false⟩,
 ⟨(some 35), .iaddr 1 (.tmp 33) (.tmp 34), (some (32, true)), false⟩,
 ⟨(some 36), .load 1 false (.tmp 35), (some (32, true)), false⟩,
 ⟨(some 37), .move (.tmp 0), (some (32, true)), false⟩,
 ⟨(some 38), .move (.tmp 9), (some (32, true)), false⟩,
 ⟨(some 39), .iaddr 1 (.tmp 37) (.tmp 38), (some (32, true)), false⟩,
 ⟨(some 40), .load 1 false (.tmp 39), (some (32, true)), false⟩,
 ⟨(some 41), .call (.func 76) [(.tmp 36), (.tmp 40)], (some (32, true)), false⟩,
 ⟨(some 42), .un .not (.tmp 41), (some (32, true)), false⟩,
 ⟨(some 43), .pick (.tmp 32) (.tmp 42) (.const (.bool false)), none, false⟩]
def ac77_L2 : AC :=
 .seq (.seq (.region true (⟨(some 29), .move (.tmp 9), none, false⟩ :: ⟨(some 30), .move (.tmp 10), none, false⟩ :: ⟨(some 31), .bin .leq 3 (.tmp 29) (.tmp 30), none, false⟩ :: ⟨(some 32), .move (.tmp 31), none, false⟩ :: (ac77_G1 ++ [])))
 (.cond (.tmp 43)
 (.skip)
 (.exit 2)))
 (.block 3 (.region false [⟨(some 44), .move (.tmp 9), none, false⟩,
 ⟨(some 45), .bin .add 3 (.tmp 44) (.const (.int .i64 1)), none, false⟩,
 ⟨(some 9), .move (.tmp 45), none, false⟩]))
def ac77_G2 : List AOper :=
 [⟨(some 50), .move (.tmp 0), (some (49, true)), false⟩,
 ⟨(some 51), .move (.tmp 1), (some (49, true)), false⟩,
 ⟨(some 52), .iaddr 1 (.tmp 50) (.tmp 51), (some (49, true)), false⟩,
 ⟨(some 53), .load 1 false (.tmp 52), (some (49, true)), false⟩,
 ⟨(some 54), .move (.tmp 0), (some (49, true)), false⟩,
 ⟨(some 55), .move (.tmp 10), (some (49, true)), false⟩,
 ⟨(some 56), .iaddr 1 (.tmp 54) (.tmp 55), (some (49, true)), false⟩,
 ⟨(some 57), .load 1 false (.tmp 56), (some (49, true)), false⟩,
 ⟨(some 58), .call (.func 76) [(.tmp 53), (.tmp 57)], (some (49, true)), false⟩,
 ⟨(some 59), .pick (.tmp 49) (.tmp 58) (.const (.bool false)), none, false⟩]
def ac77_L3 : AC :=
 .seq (.seq (.region true (⟨(some 46), .move (.tmp 9), none, false⟩ :: ⟨(some 47), .move (.tmp 10), none, false⟩ :: ⟨(some 48), .bin .leq 3 (.tmp 46) (.tmp 47), none, false⟩ :: ⟨(some 49), .move (.tmp 48), none, false⟩ :: (ac77_G2 ++ [])))
 (.cond (.tmp 59)
 (.skip)
 (.exit 4)))
 (.block 5 (.region false [⟨(some 60), .move (.tmp 10), none, false⟩,
 ⟨(some 61), .bin .sub 3 (.tmp 60) (.const (.int .i64 1)), none, false⟩,
 ⟨(some 10), .move (.tmp 61), none, false⟩]))
def ac77_L1 : AC :=
 .block 1 (.seq (.block 2 (.loop ac77_L2))
 (.seq (.block 4 (.loop ac77_L3))
 (.seq (.seq (.region false [⟨(some 62), .move (.tmp 9), none, false⟩,
 ⟨(some 63), .move (.tmp 10), none, false⟩,
 ⟨(some 64), .bin .gtr 3 (.tmp 62) (.tmp 63), none, false⟩])
 (.cond (.tmp 64)
 (.exit 0)
 (.skip)))
 (.seq (.region true [⟨(some 65), .move (.tmp 0), none, false⟩,
 ⟨(some 66), .move (.tmp 9), none, false⟩,
 ⟨(some 67), .move (.tmp 0), none, true⟩,
 ⟨(some 68), .move (.tmp 10), none, true⟩,
 ⟨(some 69), .move (.tmp 0), none, false⟩,
 ⟨(some 70), .move (.tmp 10), none, false⟩,
 ⟨(some 71), .iaddr 1 (.tmp 69) (.tmp 70), none, false⟩,
 ⟨(some 72), .load 1 false (.tmp 71), none, false⟩,
 ⟨(some 73), .move (.tmp 0), none, false⟩,
 ⟨(some 74), .move (.tmp 9), none, false⟩,
 ⟨(some 75), .iaddr 1 (.tmp 73) (.tmp 74), none, false⟩,
 ⟨(some 76), .load 1 false (.tmp 75), none, false⟩,
 ⟨(some 77), .iaddr 1 (.tmp 65) (.tmp 66), none, false⟩,
 ⟨none, .store 1 (.tmp 77) (.tmp 72), none, false⟩,
 ⟨(some 78), .iaddr 1 (.tmp 67) (.tmp 68), none, false⟩,
 ⟨none, .store 1 (.tmp 78) (.tmp 76), none, false⟩])
 (.seq (.region false [⟨(some 79), .move (.tmp 9), none, false⟩,
 ⟨(some 80), .bin .add 3 (.tmp 79) (.const (.int .i64 1)), none, false⟩,
 ⟨(some 9), .move (.tmp 80), none, false⟩])
 (.region false [⟨(some 81), .move (.tmp 10), none, false⟩,
 ⟨(some 82), .bin .sub 3 (.tmp 81) (.const (.int .i64 1)), none, false⟩,
 ⟨(some 10), .move (.tmp 82), none, false⟩]))))))
/-- slices.partitionEqualOrdered[int] -/
def ac77 : AC :=
 .seq (.region false [⟨(some 8), .move (.const (.int .i64 0)), none, false⟩])
 (.seq (.region true [⟨(some 11), .move (.tmp 0), none, false⟩,
 ⟨(some 12), .move (.tmp 1), none, false⟩,
 ⟨(some 13), .move (.tmp 0), none, true⟩,
 ⟨(some 14), .move (.tmp 3), none, true⟩,
 ⟨(some 15), .move (.tmp 0), none, false⟩,
 ⟨(some 16), .move (.tmp 3), none, false⟩,
 ⟨(some 17), .iaddr 1 (.tmp 15) (.tmp 16), none, false⟩,
 ⟨(some 18), .load 1 false (.tmp 17), none, false⟩,
 ⟨(some 19), .move (.tmp 0), none, false⟩,
 ⟨(some 20), .move (.tmp 1), none, false⟩,
 ⟨(some 21), .iaddr 1 (.tmp 19) (.tmp 20), none, false⟩,
 ⟨(some 22), .load 1 false (.tmp 21), none, false⟩,
 ⟨(some 23), .iaddr 1 (.tmp 11) (.tmp 12), none, false⟩,
 ⟨none, .store 1 (.tmp 23) (.tmp 18), none, false⟩,
 ⟨(some 24), .iaddr 1 (.tmp 13) (.tmp 14), none, false⟩,
 ⟨none, .store 1 (.tmp 24) (.tmp 22), none, false⟩])
 (.seq (.region false [⟨(some 25), .move (.tmp 1), none, false⟩,
 ⟨(some 26), .bin .add 3 (.tmp 25) (.const (.int .i64 1)), none, false⟩,
 ⟨(some 27), .move (.tmp 2), none, false⟩,
 ⟨(some 28), .bin .sub 3 (.tmp 27) (.const (.int .i64 1)), none, false⟩,
 ⟨(some 9), .move (.tmp 26), none, false⟩,
 ⟨(some 10), .move (.tmp 28), none, false⟩])
 (.seq (.block 0 (.loop ac77_L1))
 (.seq (.region false [⟨(some 83), .move (.tmp 9), none, false⟩,
 ⟨(some 8), .move (.tmp 83), none, false⟩])
 (.ret)))))
theorem text77 : FnText Tryz.prog 77 [] 84 4 ac77 [(8, none)] :=
 ⟨Tryz.call77, follows, Tryz.f77, _, Tryz.func77, rfl, rfl, by decide, by kernel_rfl, by kernel_rfl⟩

def ac78_G1 : List AOper :=
 [⟨(some 34), .move (.tmp 0), (some (33, true)), false⟩,
 ⟨(some 35), .move (.tmp 10), (some (33, true)), false⟩,
 ⟨(some 36), .iaddr 1 (.tmp 34) (.tmp 35), (some (33, true)), false⟩,
 ⟨(some 37), .load 1 false (.tmp 36), (some (33, true)), false⟩,
 ⟨(some 38), .move (.tmp 0), (some (33, true)), false⟩,
 ⟨(some 39), .move (.tmp 1), (some (33, true)), false⟩,
 ⟨(some 40), .iaddr 1 (.tmp 38) (.tmp 39), (some (33, true)), false⟩,
 ⟨(some 41), .load 1 false (.tmp 40), (some (33, true)), false⟩,
 ⟨(some 42), .call (.func 76) [(.tmp 37), (.tmp 41)], (some (33, true)), false⟩,
 ⟨(some 43), .pick (.tmp 33) (.tmp 42) (.const (.bool false)), none, false⟩]
def ac78_L1 : AC :=
 .seq (.seq (.region true (⟨(some 30), .move (.tmp 10), none, false⟩ :: ⟨(some 31), .move (.tmp 11), none, false⟩ :: ⟨(some 32), .bin .leq 3 (.tmp 30) (.tmp 31), none, false⟩ :: ⟨(some 33), .move (.tmp 32), none, false⟩ :: (ac78_G1 ++ [])))
 (.cond (.tmp 43)
 (.skip)
 (.exit 0)))
 (.block 1 (.region false [⟨(some 44), .move (.tmp 10), none, false⟩,
 ⟨(some 45), .bin .add 3 (.tmp 44) (.const (.int .i64 1)), none, false⟩,
 ⟨(some 10), .move (.tmp 45), none, false⟩]))
def ac78_G2 : List AOper :=
 [⟨(some 50), .move (.tmp 0), (some (49, true)), false⟩,
 ⟨(some 51), .move (.tmp 11), (some (49, true)), false⟩,
 ⟨(some 52), .iaddr 1 (.tmp 50) (.tmp 51), (some (49, true)), false⟩,
 ⟨(some 53), .load 1 false (.tmp 52), (some (49, true)), false⟩,
 ⟨(some 54), .move (.tmp 0), (some (49, true)), false⟩,
 ⟨(some 55), .move (.tmp 1), (some (49, true)), false⟩,
 ⟨(some 56), .iaddr 1 (.tmp 54) (.tmp 55), (some (49, true)), false⟩,
 ⟨(some 57), .load 1 false (.tmp 56), (some (49, true)), false⟩,
 ⟨(some 58), .call (.func 76) [(.tmp 53), (.tmp 57)], (some (49, true)), false⟩,
 ⟨(some 59), .un .not (.tmp 58), (some (49, true)), false⟩,
 ⟨(some 60), .pick (.tmp 49) (.tmp 59) (.const (.bool false)), none, false⟩]
def ac78_L2 : AC :=
 .seq (.seq (.region true (⟨(some 46), .move (.tmp 10), none, false⟩ :: ⟨(some 47), .move (.tmp 11), none, false⟩ :: ⟨(some 48), .bin .leq 3 (.tmp 46) (.tmp 47), none, false⟩ :: ⟨(some 49), .move (.tmp 48), none, false⟩ :: (ac78_G2 ++ [])))
 (.cond (.tmp 60)
 (.skip)
 (.exit 2)))
 (.block 3 (.region false [⟨(some 61), .move (.tmp 11), none, false⟩,
 ⟨(some 62), .bin .sub 3 (.tmp 61) (.const (.int .i64 1)), none, false⟩,
 ⟨(some 11), .move (.tmp 62), none, false⟩]))
def ac78_G3 : List AOper :=
 [⟨(some 103), .move (.tmp 0), (some (102, true)), false⟩,
 ⟨(some 104), .move (.tmp 10), (some (102, true)), false⟩,
 ⟨(some 105), .iaddr 1 (.tmp 103) (.tmp 104), (some (102, true)), false⟩,
 ⟨(some 106), .load 1 false (.tmp 105), (some (102, true)), false⟩,
 ⟨(some 107), .move (.tmp 0), (some (102, true)), false⟩,
 ⟨(some 108), .move (.tmp 1), (some (102, true)), false⟩,
 ⟨(some 109), .iaddr 1 (.tmp 107) (.tmp 108), (some (102, true)), false⟩,
 ⟨(some 110), .load 1 false (.tmp 109), (some (102, true)), false⟩,
 ⟨(some 111), .call (.func 76) [(.tmp 106), (.tmp 110)], (some (102, true)), false⟩,
 ⟨(some 112), .pick (.tmp 102) (.tmp 111) (.const (.bool false)), none, false⟩]
def ac78_L4 : AC :=
 .seq (.seq (.region true (⟨(some 99), .move (.tmp 10), none, false⟩ :: ⟨(some 100), .move (.tmp 11), none, false⟩ :: ⟨(some 101), .bin .leq 3 (.tmp 99) (.tmp 100), none, false⟩ :: ⟨(some 102), .move (.tmp 101), none, false⟩ :: (ac78_G3 ++ [])))
 (.cond (.tmp 112)
 (.skip)
 (.exit 6)))
 (.block 7 (.region false [⟨(some 113), .move (.tmp 10), none, false⟩,
 ⟨(some 114), .bin .add 3 (.tmp 113) (.const (.int .i64 1)), none, false⟩,
 ⟨(some 10), .move (.tmp 114), none, false⟩]))
def ac78_G4 : List AOper :=
 [⟨(some 119), .move (.tmp 0), (some (118, true)), false⟩,
 ⟨(some 120), .move (.tmp 11), (some (118, true)), false⟩,
 ⟨(some 121), .iaddr 1 (.tmp 119) (.tmp 120), (some (118, true)), false⟩,
 ⟨(some 122), .load 1 false (.tmp 121), (some (118, true)), false⟩,
 ⟨(some 123), .move (.tmp 0), (some (118, true)), false⟩,
 ⟨(some 124), .move (.tmp 1), (some (118, true)), false⟩,
 ⟨(some 125), .iaddr 1 (.tmp 123) (.tmp 124), (some (118, true)), false⟩,
 ⟨(some 126), .load 1 false (.tmp 125), (some (118, true)), false⟩,
 ⟨(some 127), .call (.func 76) [(.tmp 122), (.tmp 126)], (some (118, true)), false⟩,
 ⟨(some 128), .un .not (.tmp 127), (some (118, true)), false⟩,
 ⟨(some 129), .pick (.tmp 118) (.tmp 128) (.const (.bool false)), none, false⟩]
def ac78_L5 : AC :=
 .seq (.seq (.region true (⟨(some 115), .move (.tmp 10), none, false⟩ :: ⟨(some 116), .move (.tmp 11), none, false⟩ :: ⟨(some 117), .bin .leq 3 (.tmp 115) (.tmp 116), none, false⟩ :: ⟨(some 118), .move (.tmp 117), none, false⟩ :: (ac78_G4 ++ [])))
 (.cond (.tmp 129)
 (.skip)
 (.exit 8)))
 (.block 9 (.region false [⟨(some 130), .move (.tmp 11), none, false⟩,
 ⟨(some 131), .bin .sub 3 (.tmp 130) (.const (.int .i64 1)), none, false⟩,
 ⟨(some 11), .move (.tmp 131), none, false⟩]))
def ac78_L3 : AC :=
 .block 5 (.seq (.block 6 (.loop ac78_L4))
 (.seq (.block 8 (.loop ac78_L5))
 (.seq (.seq (.region false [⟨(some 132), .move (.tmp 10), none, false⟩,
 ⟨(some 133), .move (.tmp 11), none, false⟩,
 ⟨(some 134), .bin .gtr 3 (.tmp 132) (.tmp 133), none, false⟩])
 (.cond (.tmp 134)
 (.exit 4)
 (.skip)))
 (.seq (.region true [⟨(some 135), .move (.tmp 0), none, false⟩,
 ⟨(some 136), .move (.tmp 10), none, false⟩,
 ⟨(some 137), .move (.tmp 0), none, true⟩,
 ⟨(some 138), .move (.tmp 11), none, true⟩,
 ⟨(some 139), .move (.tmp 0), none, false⟩,
 ⟨(some 140), .move (.tmp 11), none, false⟩,
 ⟨(some 141), .iaddr 1 (.tmp 139) (.tmp 140), none, false⟩,
 ⟨(some 142), .load 1 false (.tmp 141), none, false⟩,
 ⟨(some 143), .move (.tmp 0), none, false⟩,
 ⟨(some 144), .move (.tmp 10), none, false⟩,
 ⟨(some 145), .iaddr 1 (.tmp 143) (.tmp 144), none, false⟩,
 ⟨(some 146), .load 1 false (.tmp 145), none, false⟩,
 ⟨(some 147), .iaddr 1 (.tmp 135) (.tmp 136), none, false⟩,
 ⟨none, .store 1 (.tmp 147) (.tmp 142), none, false⟩,
 ⟨(some 148), .iaddr 1 (.tmp 137) (.tmp 138), none, false⟩,
 ⟨none, .store 1 (.tmp 148) (.tmp 146), none, false⟩])
 (.seq (.region false [⟨(some 149), .move (.tmp 10), none, false⟩,
 ⟨(some 150), .bin .add 3 (.tmp 149) (.const (.int .i64 1)), none, false⟩,
 ⟨(some 10), .move (.tmp 150), none, false⟩])
 (.region false [⟨(some 151), .move (.tmp 11), none, false⟩,
 ⟨(some 152), .bin .sub 3 (.tmp 151) (.const (.int .i64 1)), none, false⟩,
 ⟨(some 11), .move (.tmp 152), none, false⟩]))))))
/-- slices.partitionOrdered[int] -/
def ac78 : AC :=
 .seq (.region false [⟨(some 8), .move (.const (.int .i64 0)), none, false⟩,
 ⟨(some 9), .move (.const (.bool false)), none, false⟩])
 (.seq (.region true [⟨(some 12), .move (.tmp 0), none, false⟩,
 ⟨(some 13), .move (.tmp 1), none, false⟩,
 ⟨(some 14), .move (.tmp 0), none, true⟩,
 ⟨(some 15), .move (.tmp 3), none, true⟩,
 ⟨(some 16), .move (.tmp 0), none, false⟩,
 ⟨(some 17), .move (.tmp 3), none, false⟩,
 ⟨(some 18), .iaddr 1 (.tmp 16) (.tmp 17), none, false⟩,
 ⟨(some 19), .load 1 false (.tmp 18), none, false⟩,
 ⟨(some 20), .move (.tmp 0), none, false⟩,
 ⟨(some 21), .move (.tmp 1), none, false⟩,
 ⟨(some 22), .iaddr 1 (.tmp 20) (.tmp 21), none, false⟩,
 ⟨(some 23), .load 1 false (.tmp 22), none, false⟩,
 ⟨(some 24), .iaddr 1 (.tmp 12) (.tmp 13), none, false⟩,
 ⟨none, .store 1 (.tmp 24) (.tmp 19), none, false⟩,
 ⟨(some 25), .iaddr 1 (.tmp 14) (.tmp 15), none, false⟩,
 ⟨none, .store 1 (.tmp 25) (.tmp 23), none, false⟩])
 (.seq (.region false [⟨(some 26), .move (.tmp 1), none, false⟩,
 ⟨(some 27), .bin .add 3 (.tmp 26) (.const (.int .i64 1)), none, false⟩,
 ⟨(some 28), .move (.tmp 2), none, false⟩,
 ⟨(some 29), .bin .sub 3 (.tmp 28) (.const (.int .i64 1)), none, false⟩,
 ⟨(some 10), .move (.tmp 27), none, false⟩,
 ⟨(some 11), .move (.tmp 29), none, false⟩])
 (.seq (.block 0 (.loop ac78_L1))
 (.seq (.block 2 (.loop ac78_L2))
 (.seq (.seq (.region false [⟨(some 63), .move (.tmp 10), none, false⟩,
 ⟨(some 64), .move (.tmp 11), none, false⟩,
 ⟨(some 65), .bin .gtr 3 (.tmp 63) (.tmp 64), none, false⟩])
 (.cond (.tmp 65)
 (.seq (.region true [⟨(some 66), .move (.tmp 0), none, false⟩,
 ⟨(some 67), .move (.tmp 11), none, false⟩,
 ⟨(some 68), .move (.tmp 0), none, true⟩,
 ⟨(some 69), .move (.tmp 1), none, true⟩,
 ⟨(some 70), .move (.tmp 0), none, false⟩,
 ⟨(some 71), .move (.tmp 1), none, false⟩,
 ⟨(some 72), .iaddr 1 (.tmp 70) (.tmp 71), none, false⟩,
 ⟨(some 73), .load 1 false (.tmp 72), none, false⟩,
 ⟨(some 74), .move (.tmp 0), none, false⟩,
 ⟨(some 75), .move (.tmp 11), none, false⟩,
 ⟨(some 76), .iaddr 1 (.tmp 74) (.tmp 75), none, false⟩,
 ⟨(some 77), .load 1 false (.tmp 76), none, false⟩,
 ⟨(some 78), .iaddr 1 (.tmp 66) (.tmp 67), none, false⟩,
 ⟨none, .store 1 (.tmp 78) (.tmp 73), none, false⟩,
 ⟨(some 79), .iaddr 1 (.tmp 68) (.tmp 69), none, false⟩,
 ⟨none, .store 1 (.tmp 79) (.tmp 77), none, false⟩])
 (.seq (.region false [⟨(some 80), .move (.tmp 11), none, false⟩,
 ⟨(some 8), .move (.tmp 80), none, false⟩,
 ⟨(some 9), .move (.const (.bool true)), none, false⟩])
 (.ret)))
 (.skip)))
 (.seq (.region true [⟨(some 81), .move (.tmp 0), none, false⟩,
 ⟨(some 82), .move (.tmp 10), none, false⟩,
 ⟨(some 83), .move (.tmp 0), none, true⟩,
 ⟨(some 84), .move (.tmp 11), none, true⟩,
 ⟨(some 85), .move (.tmp 0), none, false⟩,
 ⟨(some 86), .move (.tmp 11), none, false⟩,
 ⟨(some 87), .iaddr 1 (.tmp 85) (.tmp 86), none, false⟩,
 ⟨(some 88), .load 1 false (.tmp 87), none, false⟩,
 ⟨(some 89), .move (.tmp 0), none, false⟩,
 ⟨(some 90), .move (.tmp 10), none, false⟩,
 ⟨(some 91), .iaddr 1 (.tmp 89) (.tmp 90), none, false⟩,
 ⟨(some 92), .load 1 false (.tmp 91), none, false⟩,
 ⟨(some 93), .iaddr 1 (.tmp 81) (.tmp 82), none, false⟩,
 ⟨none, .store 1 (.tmp 93) (.tmp 88), none, false⟩,
 ⟨(some 94), .iaddr 1 (.tmp 83) (.tmp 84), none, false⟩,
 ⟨none, .store 1 (.tmp 94) (.tmp 92), none, false⟩])
 (.seq (.region false [⟨(some 95), .move (.tmp 10), none, false⟩,
 ⟨(some 96), .bin .add 3 (.tmp 95) (.const (.int .i64 1)), none, false⟩,
 ⟨(some 10), .move (.tmp 96), none, false⟩])
 (.seq (.region false [⟨(some 97), .move (.tmp 11), none, false⟩,
 ⟨(some 98), .bin .sub 3 (.tmp 97) (.const (.int .i64 1)), none, false⟩,
 ⟨(some 11), .move (.tmp 98), none, false⟩])
 (.seq (.block 4 (.loop ac78_L3))
 (.seq (.region true [⟨(some 153), .move (.tmp 0), none, false⟩,
 ⟨(some 154), .move (.tmp 11), none, false⟩,
 ⟨(some 155), .move (.tmp 0), none, true⟩,
 ⟨(some 156), .move (.tmp 1), none, true⟩,
 ⟨(some 157), .move (.tmp 0), none, false⟩,
 ⟨(some 158), .move (.tmp 1), none, false⟩,
 ⟨(some 159), .iaddr 1 (.tmp 157) (.tmp 158), none, false⟩,
 ⟨(some 160), .load 1 false (.tmp 159), none, false⟩,
 ⟨(some 161), .move (.tmp 0), none, false⟩,
 ⟨(some 162), .move (.tmp 11), none, false⟩,
 ⟨(some 163), .iaddr 1 (.tmp 161) (.tmp 162), none, false⟩,
 ⟨(some 164), .load 1 false (.tmp 163), none, false⟩,
 ⟨(some 165), .iaddr 1 (.tmp 153) (.tmp 154), none, false⟩,
 ⟨none, .store 1 (.tmp 165) (.tmp 160), none, false⟩,
 ⟨(some 166), .iaddr 1 (.tmp 155) (.tmp 156), none, false⟩,
 ⟨none, .store 1 (.tmp 166) (.tmp 164), none, false⟩])
 (.seq (.region false [⟨(some 167), .move (.tmp 11), none, false⟩,
 ⟨(some 8), .move (.tmp 167), none, false⟩,
 ⟨(some 9), .move (.const (.bool false)), none, false⟩])
 (.ret))))))))))))
theorem text78 : FnText Tryz.prog 78 [] 168 4 ac78 [(8, none), (9, none)] :=
 ⟨Tryz.call78, follows, Tryz.f78, _, Tryz.func78, rfl, rfl, by decide, by kernel_rfl, by kernel_rfl⟩

def ac48_L2 : AC :=
 .seq (.seq (.region false [⟨(some 29), .move (.tmp 5), none, false⟩,
 ⟨(some 30), .move (.tmp 4), none, false⟩,
 ⟨(some 31), .bi .len [29].toArray 3 [(.tmp 30)], none, false⟩,
 ⟨(some 32), .bin .lss 3 (.tmp 29) (.tmp 31), none, false⟩])
 (.cond (.tmp 32)
 (.skip)
 (.exit 2)))
 (.seq (.block 3 (.seq (.region true [⟨(some 35), .move (.tmp 4), none, false⟩,
 ⟨(some 36), .move (.tmp 5), none, false⟩,
 ⟨(some 37), .iaddr 1 (.tmp 35) (.tmp 36), none, false⟩,
 ⟨(some 38), .load 1 false (.tmp 37), none, false⟩,
 ⟨(some 39), .move (.tmp 4), none, false⟩,
 ⟨(some 40), .move (.tmp 5), none, false⟩,
 ⟨(some 41), .bin .sub 3 (.tmp 40) (.const (.int .i64 1)), none, false⟩,
 ⟨(some 42), .iaddr 1 (.tmp 39) (.tmp 41), none, false⟩,
 ⟨(some 43), .load 1 false (.tmp 42), none, false⟩,
 ⟨(some 44), .bin .neq 3 (.tmp 38) (.tmp 43), none, false⟩])
 (.cond (.tmp 44)
 (.seq (.region false [⟨(some 45), .move (.tmp 0), none, false⟩,
 ⟨(some 46), .move (.tmp 3), none, false⟩,
 ⟨(some 47), .move (.tmp 4), none, false⟩,
 ⟨(some 48), .move (.tmp 5), none, false⟩,
 ⟨(some 49), .iaddr 1 (.tmp 47) (.tmp 48), none, false⟩,
 ⟨(some 50), .load 1 false (.tmp 49), none, false⟩,
 ⟨(some 51), .iaddr 1 (.tmp 45) (.tmp 46), none, false⟩,
 ⟨none, .store 1 (.tmp 51) (.tmp 50), none, false⟩])
 (.region false [⟨(some 52), .move (.tmp 3), none, false⟩,
 ⟨(some 53), .bin .add 3 (.tmp 52) (.const (.int .i64 1)), none, false⟩,
 ⟨(some 3), .move (.tmp 53), none, false⟩]))
 (.skip))))
 (.region false [⟨(some 33), .move (.tmp 5), none, false⟩,
 ⟨(some 34), .bin .add 3 (.tmp 33) (.const (.int .i64 1)), none, false⟩,
 ⟨(some 5), .move (.tmp 34), none, false⟩]))
def ac48_L1 : AC :=
 .seq (.seq (.region false [⟨(some 10), .move (.tmp 3), none, false⟩,
 ⟨(some 11), .move (.tmp 0), none, false⟩,
 ⟨(some 12), .bi .len [29].toArray 3 [(.tmp 11)], none, false⟩,
 ⟨(some 13), .bin .lss 3 (.tmp 10) (.tmp 12), none, false⟩])
 (.cond (.tmp 13)
 (.skip)
 (.exit 0)))
 (.seq (.block 1 (.seq (.region true [⟨(some 16), .move (.tmp 0), none, false⟩,
 ⟨(some 17), .move (.tmp 3), none, false⟩,
 ⟨(some 18), .iaddr 1 (.tmp 16) (.tmp 17), none, false⟩,
 ⟨(some 19), .load 1 false (.tmp 18), none, false⟩,
 ⟨(some 20), .move (.tmp 0), none, false⟩,
 ⟨(some 21), .move (.tmp 3), none, false⟩,
 ⟨(some 22), .bin .sub 3 (.tmp 21) (.const (.int .i64 1)), none, false⟩,
 ⟨(some 23), .iaddr 1 (.tmp 20) (.tmp 22), none, false⟩,
 ⟨(some 24), .load 1 false (.tmp 23), none, false⟩,
 ⟨(some 25), .bin .eql 3 (.tmp 19) (.tmp 24), none, false⟩])
 (.cond (.tmp 25)
 (.seq (.region false [⟨(some 26), .move (.tmp 0), none, false⟩,
 ⟨(some 27), .move (.tmp 3), none, false⟩,
 ⟨(some 28), .slice 29 1 (.tmp 26) (some (.tmp 27)) none none, none, false⟩,
 ⟨(some 4), .move (.tmp 28), none, false⟩])
 (.seq (.seq (.region false [⟨(some 5), .move (.const (.int .i64 1)), none, false⟩])
 (.block 2 (.loop ac48_L2)))
 (.seq (.region false [⟨(some 54), .move (.tmp 0), none, false⟩,
 ⟨(some 55), .move (.tmp 3), none, false⟩,
 ⟨(some 56), .slice 29 1 (.tmp 54) (some (.tmp 55)) none none, none, false⟩,
 ⟨none, .copy 0 0 0 (.const (.bool false)) (.const (.bool false)), none, false⟩])
 (.seq (.region false [⟨(some 57), .move (.tmp 0), none, false⟩,
 ⟨(some 58), .move (.tmp 3), none, false⟩,
 ⟨(some 59), .slice 29 1 (.tmp 57) none (some (.tmp 58)) none, none, false⟩,
 ⟨(some 2), .move (.tmp 59), none, false⟩])
 (.ret)))))
 (.skip))))
 (.region false [⟨(some 14), .move (.tmp 3), none, false⟩,
 ⟨(some 15), .bin .add 3 (.tmp 14) (.const (.int .i64 1)), none, false⟩,
 ⟨(some 3), .move (.tmp 15), none, false⟩]))
/-- slices.Compact[[]int,int] -/
def ac48 : AC :=
 .seq (.region false [⟨(some 2), .move (.const (.slice none 0 0)), none, false⟩])
 (.seq (.seq (.region false [⟨(some 6), .move (.tmp 0), none, false⟩,
 ⟨(some 7), .bi .len [29].toArray 3 [(.tmp 6)], none, false⟩,
 ⟨(some 8), .bin .lss 3 (.tmp 7) (.const (.int .i64 2)), none, false⟩])
 (.cond (.tmp 8)
 (.seq (.region false [⟨(some 9), .move (.tmp 0), none, false⟩,
 ⟨(some 2), .move (.tmp 9), none, false⟩])
 (.ret))
 (.skip)))
 (.seq (.seq (.region false [⟨(some 3), .move (.const (.int .i64 1)), none, false⟩])
 (.block 0 (.loop ac48_L1)))
 (.seq (.region false [⟨(some 60), .move (.tmp 0), none, false⟩,
 ⟨(some 2), .move (.tmp 60), none, false⟩])
 (.ret))))
theorem text48 : FnText Tryz.prog 48 [] 61 1 ac48 [(2, none)] :=
 ⟨Tryz.call48, follows, Tryz.f48, _, Tryz.func48, rfl, rfl, by decide, by kernel_rfl, by kernel_rfl⟩

def ac30_L1 : AC :=
 .seq (.region false [⟨(some 19), .bin .lss 3 (.tmp 18) (.tmp 17), none, false⟩])
 (.seq (.cond (.tmp 19)
 (.skip)
 (.exit 0))
 (.seq (.block 1 (.seq (.region false [⟨(some 20), .iaddr 2 (.tmp 16) (.tmp 18), none, false⟩,
 ⟨(some 21), .load 2 true (.tmp 20), none, false⟩,
 ⟨(some 10), .alloc true 33 (.agg [(.int .i64 0), (.int .i64 0)].toArray), none, false⟩,
 ⟨none, .store 2 (.tmp 10) (.tmp 21), none, false⟩])
 (.regionT [⟨(some 22), .move (.tmp 8), none, false⟩,
 ⟨(some 23), .load 1 false (.tmp 4), none, false⟩,
 ⟨(some 24), .nilCheck (.tmp 23), none, false⟩,
 ⟨(some 25), .faddr 0 9 true (.tmp 24), none, false⟩,
 ⟨(some 26), .load 9 true (.tmp 25), none, false⟩,
 ⟨(some 27), .load 2 true (.tmp 10), none, false⟩,
 ⟨(some 28), .call (.func 8) [(.tmp 26), (.tmp 27)], none, false⟩] ⟨(some 29), .call (.tmp 22) [(.tmp 28)], none, false⟩)))
 (.region false [⟨(some 30), .bin .add 3 (.tmp 18) (.const (.int .i64 1)), none, false⟩,
 ⟨(some 18), .move (.tmp 30), none, false⟩])))
def ac30_L2 : AC :=
 .seq (.region false [⟨(some 34), .bin .lss 3 (.tmp 33) (.tmp 32), none, false⟩])
 (.seq (.cond (.tmp 34)
 (.skip)
 (.exit 2))
 (.seq (.block 3 (.seq (.region false [⟨(some 35), .iaddr 1 (.tmp 31) (.tmp 33), none, false⟩,
 ⟨(some 36), .load 1 false (.tmp 35), none, false⟩,
 ⟨(some 12), .move (.tmp 36), none, false⟩])
 (.region false [⟨(some 37), .move (.tmp 8), none, false⟩,
 ⟨(some 38), .load 1 false (.tmp 4), none, false⟩,
 ⟨(some 39), .nilCheck (.tmp 38), none, false⟩,
 ⟨(some 40), .faddr 0 9 true (.tmp 39), none, false⟩,
 ⟨(some 41), .load 9 true (.tmp 40), none, false⟩,
 ⟨(some 42), .move (.tmp 12), none, false⟩,
 ⟨(some 43), .call (.func 10) [(.tmp 41), (.tmp 42)], none, false⟩,
 ⟨(some 44), .call (.tmp 37) [(.tmp 43)], none, false⟩])))
 (.region false [⟨(some 45), .bin .add 3 (.tmp 33) (.const (.int .i64 1)), none, false⟩,
 ⟨(some 33), .move (.tmp 45), none, false⟩])))
def ac30_L3 : AC :=
 .seq (.region false [⟨(some 49), .bin .lss 3 (.tmp 48) (.tmp 47), none, false⟩])
 (.seq (.cond (.tmp 49)
 (.skip)
 (.exit 4))
 (.seq (.block 5 (.seq (.region false [⟨(some 50), .iaddr 1 (.tmp 46) (.tmp 48), none, false⟩,
 ⟨(some 51), .load 1 false (.tmp 50), none, false⟩,
 ⟨(some 14), .move (.tmp 51), none, false⟩])
 (.region false [⟨(some 52), .move (.tmp 8), none, false⟩,
 ⟨(some 53), .load 1 false (.tmp 4), none, false⟩,
 ⟨(some 54), .nilCheck (.tmp 53), none, false⟩,
 ⟨(some 55), .faddr 0 9 true (.tmp 54), none, false⟩,
 ⟨(some 56), .load 9 true (.tmp 55), none, false⟩,
 ⟨(some 57), .move (.tmp 14), none, false⟩,
 ⟨(some 58), .call (.func 12) [(.tmp 56), (.tmp 57)], none, false⟩,
 ⟨(some 59), .call (.tmp 52) [(.tmp 58)], none, false⟩])))
 (.region false [⟨(some 60), .bin .add 3 (.tmp 48) (.const (.int .i64 1)), none, false⟩,
 ⟨(some 48), .move (.tmp 60), none, false⟩])))
/-- (*patchbay/access.collector).add -/
def ac30 : AC :=
 .seq (.region false [⟨(some 4), .box false 80 (.tmp 0), none, false⟩])
 (.seq (.region false [⟨(some 15), .mkFunc (.func 41) [] [(.tmp 4)], none, false⟩,
 ⟨(some 8), .move (.tmp 15), none, false⟩])
 (.seq (.seq (.region false [⟨(some 16), .move (.tmp 1), none, false⟩,
 ⟨(some 17), .bi .len [84].toArray 3 [(.tmp 16)], none, false⟩,
 ⟨(some 18), .move (.const (.int .i64 0)), none, false⟩])
 (.block 0 (.loop ac30_L1)))
 (.seq (.seq (.region false [⟨(some 31), .move (.tmp 2), none, false⟩,
 ⟨(some 32), .bi .len [29].toArray 3 [(.tmp 31)], none, false⟩,
 ⟨(some 33), .move (.const (.int .i64 0)), none, false⟩])
 (.block 2 (.loop ac30_L2)))
 (.seq (.region false [⟨(some 46), .move (.tmp 3), none, false⟩,
 ⟨(some 47), .bi .len [29].toArray 3 [(.tmp 46)], none, false⟩,
 ⟨(some 48), .move (.const (.int .i64 0)), none, false⟩])
 (.block 4 (.loop ac30_L3))))))
theorem text30 : FnText Tryz.prog 30 [10] 61 4 ac30 [] :=
 ⟨Tryz.call30, follows, Tryz.f30, _, Tryz.func30, rfl, rfl, by decide, by kernel_rfl, by kernel_rfl⟩


/-- (*patchbay/access.collector).add$1 -/
def ac41 : AC :=
 .seq (.region false [⟨(some 3), .move (.tmp 0), none, false⟩,
 ⟨(some 4), .bin .geq 3 (.tmp 3) (.const (.int .i64 0)), none, false⟩])
 (.cond (.tmp 4)
 (.region true [⟨(some 5), .load 1 false (.tmp 1), none, true⟩,
 ⟨(some 6), .load 1 false (.tmp 1), none, false⟩,
 ⟨(some 7), .nilCheck (.tmp 6), none, false⟩,
 ⟨(some 8), .faddr 9 1 false (.tmp 7), none, false⟩,
 ⟨(some 9), .load 1 false (.tmp 8), none, false⟩,
 ⟨(some 10), .move (.tmp 0), none, false⟩,
 ⟨(some 11), .bslice false 3 1 false [(.tmp 10)], none, false⟩,
 ⟨(some 12), .append 29 3 1 8 (.tmp 9) (.tmp 11), none, false⟩,
 ⟨(some 13), .nilCheck (.tmp 5), none, false⟩,
 ⟨(some 14), .faddr 9 1 false (.tmp 13), none, false⟩,
 ⟨none, .store 1 (.tmp 14) (.tmp 12), none, false⟩])
 (.skip))
theorem text41 : FnText Tryz.prog 41 [] 15 2 ac41 [] :=
 ⟨Tryz.call41, follows, Tryz.f41, _, Tryz.func41, rfl, rfl, by decide, by kernel_rfl, by kernel_rfl⟩


/-- (*patchbay/access.collector).sorted -/
def ac33 : AC :=
 .seq (.region false [⟨(some 2), .move (.const (.slice none 0 0)), none, false⟩])
 (.seq (.region false [⟨(some 3), .move (.tmp 0), none, false⟩,
 ⟨(some 4), .nilCheck (.tmp 3), none, false⟩,
 ⟨(some 5), .faddr 9 1 false (.tmp 4), none, false⟩,
 ⟨(some 6), .load 1 false (.tmp 5), none, false⟩,
 ⟨(some 7), .call (.func 47) [(.tmp 6)], none, false⟩])
 (.seq (.region false [⟨(some 8), .move (.tmp 0), none, false⟩,
 ⟨(some 9), .nilCheck (.tmp 8), none, false⟩,
 ⟨(some 10), .faddr 9 1 false (.tmp 9), none, false⟩,
 ⟨(some 11), .load 1 false (.tmp 10), none, false⟩,
 ⟨(some 12), .call (.func 48) [(.tmp 11)], none, false⟩,
 ⟨(some 2), .move (.tmp 12), none, false⟩])
 (.ret)))
theorem text33 : FnText Tryz.prog 33 [] 13 1 ac33 [(2, none)] :=
 ⟨Tryz.call33, follows, Tryz.f33, _, Tryz.func33, rfl, rfl, by decide, by kernel_rfl, by kernel_rfl⟩

def ac34_G1 : List AOper :=
 [⟨(some 10), .faddr 0 1 false (.tmp 3), (some (9, false)), false⟩,
 ⟨(some 11), .load 1 false (.tmp 10), (some (9, false)), false⟩,
 ⟨(some 12), .faddr 5 1 false (.tmp 2), (some (9, false)), false⟩,
 ⟨(some 13), .load 1 false (.tmp 12), (some (9, false)), false⟩,
 ⟨(some 14), .bi .len [26].toArray 3 [(.tmp 13)], (some (9, false)), false⟩,
 ⟨(some 15), .bin .geq 3 (.tmp 11) (.tmp 14), (some (9, false)), false⟩,
 ⟨(some 16), .pick (.tmp 9) (.const (.bool true)) (.tmp 15), none, false⟩]
/-- patchbay/access.declared -/
def ac34 : AC :=
 .seq (.region false [⟨(some 2), .box false 31 (.tmp 0), none, false⟩,
 ⟨(some 3), .box false 66 (.tmp 1), none, false⟩,
 ⟨(some 4), .alloc true 55 (.agg [(.string ⟨[].toArray⟩), (.slice none 0 0), (.slice none 0 0), (.int .i64 0), (.slice none 0 0), (.int .i64 0)].toArray), none, false⟩,
 ⟨(some 5), .move (.const (.bool false)), none, false⟩])
 (.seq (.seq (.region false (⟨(some 6), .faddr 0 1 false (.tmp 3), none, false⟩ :: ⟨(some 7), .load 1 false (.tmp 6), none, false⟩ :: ⟨(some 8), .bin .lss 3 (.tmp 7) (.const (.int .i64 0)), none, false⟩ :: ⟨(some 9), .move (.tmp 8), none, false⟩ :: (ac34_G1 ++ [])))
 (.cond (.tmp 16)
 (.seq (.region false [⟨(some 17), .build [(.string ⟨[].toArray⟩), (.slice none 0 0), (.slice none 0 0), (.int .i64 0), (.slice none 0 0), (.int .i64 0)] [], none, false⟩,
 ⟨none, .store 6 (.tmp 4) (.tmp 17), none, false⟩,
 ⟨(some 5), .move (.const (.bool false)), none, false⟩])
 (.ret))
 (.skip)))
 (.seq (.region false [⟨(some 18), .faddr 5 1 false (.tmp 2), none, false⟩,
 ⟨(some 19), .load 1 false (.tmp 18), none, false⟩,
 ⟨(some 20), .faddr 0 1 false (.tmp 3), none, false⟩,
 ⟨(some 21), .load 1 false (.tmp 20), none, false⟩,
 ⟨(some 22), .iaddr 6 (.tmp 19) (.tmp 21), none, false⟩,
 ⟨(some 23), .load 6 true (.tmp 22), none, false⟩,
 ⟨none, .store 6 (.tmp 4) (.tmp 23), none, false⟩,
 ⟨(some 5), .move (.const (.bool true)), none, false⟩])
 (.ret)))
theorem text34 : FnText Tryz.prog 34 [4] 24 2 ac34 [(4, some (6, true)), (5, none)] :=
 ⟨Tryz.call34, follows, Tryz.f34, _, Tryz.func34, rfl, rfl, by decide, by kernel_rfl, by kernel_rfl⟩

def ac35_G1 : List AOper :=
 [⟨(some 58), .faddr 0 1 false (.tmp 9), (some (57, false)), false⟩,
 ⟨(some 59), .load 1 false (.tmp 58), (some (57, false)), false⟩,
 ⟨(some 60), .bin .eql 3 (.tmp 59) (.const (.int .i64 4)), (some (57, false)), false⟩,
 ⟨(some 61), .pick (.tmp 57) (.const (.bool true)) (.tmp 60), none, false⟩]
def ac35_G2 : List AOper :=
 [⟨(some 63), .faddr 1 2 true (.tmp 9), (some (62, true)), false⟩,
 ⟨(some 64), .faddr 0 1 false (.tmp 63), (some (62, true)), false⟩,
 ⟨(some 65), .load 1 false (.tmp 64), (some (62, true)), false⟩,
 ⟨(some 66), .bin .neq 3 (.tmp 65) (.const (.int .i64 (-1))), (some (62, true)), false⟩,
 ⟨(some 67), .pick (.tmp 62) (.tmp 66) (.const (.bool false)), none, false⟩]
def ac35_L1 : AC :=
 .seq (.region false [⟨(some 15), .bin .lss 3 (.tmp 14) (.tmp 13), none, false⟩])
 (.seq (.cond (.tmp 15)
 (.skip)
 (.exit 0))
 (.seq (.block 1 (.seq (.region false [⟨(some 16), .iaddr 7 (.tmp 12) (.tmp 14), none, false⟩,
 ⟨(some 17), .load 7 true (.tmp 16), none, false⟩,
 ⟨(some 9), .alloc true 75 (.agg [(.int .i64 0), (.int .i64 0), (.int .i64 0), (.int .i64 0), (.int .i64 0), (.slice none 0 0), (.slice none 0 0)].toArray), none, false⟩,
 ⟨none, .store 7 (.tmp 9) (.tmp 17), none, false⟩])
 (.seq (.seq (.region false [⟨(some 18), .faddr 0 1 false (.tmp 9), none, false⟩,
 ⟨(some 19), .load 1 false (.tmp 18), none, false⟩])
 (.block 2 (.seq (.region false [⟨(some 21), .bin .eql 3 (.tmp 19) (.const (.int .i64 1)), none, false⟩,
 ⟨(some 20), .move (.tmp 21), none, false⟩])
 (.cond (.tmp 20)
 (.region false [⟨(some 22), .faddr 6 1 false (.tmp 9), none, false⟩,
 ⟨(some 23), .load 1 false (.tmp 22), none, false⟩,
 ⟨(some 24), .call (.func 50) [(.tmp 7), (.tmp 23)], none, false⟩])
 (.seq (.region false [⟨(some 26), .bin .eql 3 (.tmp 19) (.const (.int .i64 2)), none, false⟩,
 ⟨(some 25), .move (.tmp 26), none, false⟩])
 (.cond (.tmp 25)
 (.region false [⟨(some 27), .faddr 1 1 false (.tmp 7), none, false⟩,
 ⟨(some 28), .load 1 false (.tmp 27), none, false⟩,
 ⟨(some 29), .faddr 4 1 false (.tmp 9), none, false⟩,
 ⟨(some 30), .load 1 false (.tmp 29), none, false⟩,
 ⟨(some 31), .bslice false 3 1 false [(.tmp 30)], none, false⟩,
 ⟨(some 32), .append 29 3 1 8 (.tmp 28) (.tmp 31), none, false⟩,
 ⟨(some 33), .faddr 1 1 false (.tmp 7), none, false⟩,
 ⟨none, .store 1 (.tmp 33) (.tmp 32), none, false⟩])
 (.seq (.region false [⟨(some 35), .bin .eql 3 (.tmp 19) (.const (.int .i64 4)), none, false⟩,
 ⟨(some 34), .move (.tmp 35), none, false⟩])
 (.cond (.tmp 34)
 (.seq (.region false [⟨(some 36), .faddr 5 1 false (.tmp 9), none, false⟩,
 ⟨(some 37), .load 1 false (.tmp 36), none, false⟩,
 ⟨(some 38), .call (.func 50) [(.tmp 7), (.tmp 37)], none, false⟩])
 (.region false [⟨(some 39), .faddr 2 1 false (.tmp 7), none, false⟩,
 ⟨(some 40), .load 1 false (.tmp 39), none, false⟩,
 ⟨(some 41), .faddr 3 1 false (.tmp 9), none, false⟩,
 ⟨(some 42), .load 1 false (.tmp 41), none, false⟩,
 ⟨(some 43), .bslice false 3 1 false [(.tmp 42)], none, false⟩,
 ⟨(some 44), .append 29 3 1 8 (.tmp 40) (.tmp 43), none, false⟩,
 ⟨(some 45), .faddr 2 1 false (.tmp 7), none, false⟩,
 ⟨none, .store 1 (.tmp 45) (.tmp 44), none, false⟩]))
 (.seq (.region false [⟨(some 47), .bin .eql 3 (.tmp 19) (.const (.int .i64 5)), none, false⟩,
 ⟨(some 46), .move (.tmp 47), none, false⟩])
 (.cond (.tmp 46)
 (.seq (.region false [⟨(some 48), .faddr 5 1 false (.tmp 9), none, false⟩,
 ⟨(some 49), .load 1 false (.tmp 48), none, false⟩,
 ⟨(some 50), .call (.func 50) [(.tmp 7), (.tmp 49)], none, false⟩])
 (.region false [⟨(some 51), .faddr 6 1 false (.tmp 9), none, false⟩,
 ⟨(some 52), .load 1 false (.tmp 51), none, false⟩,
 ⟨(some 53), .call (.func 50) [(.tmp 7), (.tmp 52)], none, false⟩]))
 (.skip)))))))))))
 (.seq (.region false (⟨(some 54), .faddr 0 1 false (.tmp 9), none, false⟩ :: ⟨(some 55), .load 1 false (.tmp 54), none, false⟩ :: ⟨(some 56), .bin .eql 3 (.tmp 55) (.const (.int .i64 1)), none, false⟩ :: ⟨(some 57), .move (.tmp 56), none, false⟩ :: (ac35_G1 ++ (⟨(some 62), .move (.tmp 61), none, false⟩ :: (ac35_G2 ++ [])))))
 (.cond (.tmp 67)
 (.region false [⟨(some 68), .faddr 1 1 false (.tmp 7), none, false⟩,
 ⟨(some 69), .load 1 false (.tmp 68), none, false⟩,
 ⟨(some 70), .faddr 1 2 true (.tmp 9), none, false⟩,
 ⟨(some 71), .faddr 0 1 false (.tmp 70), none, false⟩,
 ⟨(some 72), .load 1 false (.tmp 71), none, false⟩,
 ⟨(some 73), .bslice false 3 1 false [(.tmp 72)], none, false⟩,
 ⟨(some 74), .append 29 3 1 8 (.tmp 69) (.tmp 73), none, false⟩,
 ⟨(some 75), .faddr 1 1 false (.tmp 7), none, false⟩,
 ⟨none, .store 1 (.tmp 75) (.tmp 74), none, false⟩])
 (.skip))))))
 (.region false [⟨(some 76), .bin .add 3 (.tmp 14) (.const (.int .i64 1)), none, false⟩,
 ⟨(some 14), .move (.tmp 76), none, false⟩])))
/-- patchbay/action.Reads -/
def ac35 : AC :=
 .seq (.region false [⟨(some 2), .box false 31 (.tmp 0), none, false⟩,
 ⟨(some 4), .move (.const (.slice none 0 0)), none, false⟩,
 ⟨(some 5), .move (.const (.slice none 0 0)), none, false⟩,
 ⟨(some 6), .move (.const (.slice none 0 0)), none, false⟩])
 (.seq (.region false [⟨(some 7), .alloc true 107 (.agg [(.slice none 0 0), (.slice none 0 0), (.slice none 0 0)].toArray), none, false⟩])
 (.seq (.seq (.region false [⟨(some 10), .load 9 true (.tmp 2), none, false⟩,
 ⟨(some 11), .move (.tmp 1), none, false⟩,
 ⟨(some 12), .call (.func 49) [(.tmp 10), (.tmp 11)], none, false⟩,
 ⟨(some 13), .bi .len [47].toArray 3 [(.tmp 12)], none, false⟩,
 ⟨(some 14), .move (.const (.int .i64 0)), none, false⟩])
 (.block 0 (.loop ac35_L1)))
 (.seq (.region false [⟨(some 77), .call (.func 51) [(.tmp 7)], none, false⟩,
 ⟨(some 78), .extract (.tmp 77) 0, none, false⟩,
 ⟨(some 79), .extract (.tmp 77) 1, none, false⟩,
 ⟨(some 80), .extract (.tmp 77) 2, none, false⟩,
 ⟨(some 4), .move (.tmp 78), none, false⟩,
 ⟨(some 5), .move (.tmp 79), none, false⟩,
 ⟨(some 6), .move (.tmp 80), none, false⟩])
 (.ret))))
theorem text35 : FnText Tryz.prog 35 [7, 9] 81 2 ac35 [(4, none), (5, none), (6, none)] :=
 ⟨Tryz.call35, follows, Tryz.f35, _, Tryz.func35, rfl, rfl, by decide, by kernel_rfl, by kernel_rfl⟩


/-- patchbay/action.body -/
def ac49 : AC :=
 .seq (.region false [⟨(some 2), .box false 31 (.tmp 0), none, false⟩,
 ⟨(some 4), .move (.const (.slice none 0 0)), none, false⟩])
 (.seq (.seq (.region false [⟨(some 8), .load 9 true (.tmp 2), none, false⟩,
 ⟨(some 9), .move (.tmp 1), none, false⟩,
 ⟨(some 10), .call (.func 58) [(.tmp 8), (.tmp 9)], none, false⟩,
 ⟨(some 7), .move (.tmp 10), none, false⟩,
 ⟨(some 11), .extract (.tmp 7) 0, none, false⟩,
 ⟨(some 12), .extract (.tmp 7) 1, none, false⟩,
 ⟨(some 5), .move (.tmp 11), none, false⟩,
 ⟨(some 6), .move (.tmp 12), none, false⟩])
 (.seq (.region false [⟨(some 13), .move (.tmp 6), none, false⟩,
 ⟨(some 14), .bin .neq 118 (.tmp 13) (.const (.int .i64 0)), none, false⟩])
 (.cond (.tmp 14)
 (.seq (.region false [⟨(some 4), .move (.const (.slice none 0 0)), none, false⟩])
 (.ret))
 (.skip))))
 (.seq (.region false [⟨(some 15), .faddr 4 1 false (.tmp 2), none, false⟩,
 ⟨(some 16), .load 1 false (.tmp 15), none, false⟩,
 ⟨(some 17), .move (.tmp 1), none, false⟩,
 ⟨(some 18), .iaddr 3 (.tmp 16) (.tmp 17), none, false⟩,
 ⟨(some 19), .faddr 2 1 false (.tmp 18), none, false⟩,
 ⟨(some 20), .load 1 false (.tmp 19), none, false⟩,
 ⟨(some 4), .move (.tmp 20), none, false⟩])
 (.ret)))
theorem text49 : FnText Tryz.prog 49 [] 21 2 ac49 [(4, none)] :=
 ⟨Tryz.call49, follows, Tryz.f49, _, Tryz.func49, rfl, rfl, by decide, by kernel_rfl, by kernel_rfl⟩

def ac58_G1 : List AOper :=
 [⟨(some 13), .move (.tmp 1), (some (12, false)), false⟩,
 ⟨(some 14), .faddr 4 1 false (.tmp 2), (some (12, false)), false⟩,
 ⟨(some 15), .load 1 false (.tmp 14), (some (12, false)), false⟩,
 ⟨(some 16), .bi .len [25].toArray 3 [(.tmp 15)], (some (12, false)), false⟩,
 ⟨(some 17), .bin .geq 3 (.tmp 13) (.tmp 16), (some (12, false)), false⟩,
 ⟨(some 18), .pick (.tmp 12) (.const (.bool true)) (.tmp 17), none, false⟩]
def ac58_L1 : AC :=
 .seq (.region false [⟨(some 38), .bin .lss 3 (.tmp 37) (.tmp 36), none, false⟩])
 (.seq (.cond (.tmp 38)
 (.skip)
 (.exit 0))
 (.seq (.block 1 (.seq (.region false [⟨(some 39), .move (.tmp 37), none, false⟩,
 ⟨(some 40), .iaddr 7 (.tmp 35) (.tmp 37), none, false⟩,
 ⟨(some 41), .load 7 true (.tmp 40), none, false⟩,
 ⟨(some 9), .alloc true 75 (.agg [(.int .i64 0), (.int .i64 0), (.int .i64 0), (.int .i64 0), (.int .i64 0), (.slice none 0 0), (.slice none 0 0)].toArray), none, false⟩,
 ⟨(some 8), .move (.tmp 39), none, false⟩,
 ⟨none, .store 7 (.tmp 9) (.tmp 41), none, false⟩])
 (.seq (.region false [⟨(some 42), .load 10 true (.tmp 7), none, false⟩,
 ⟨(some 43), .load 7 true (.tmp 9), none, false⟩,
 ⟨(some 44), .call (.func 80) [(.tmp 42), (.tmp 43)], none, false⟩,
 ⟨(some 5), .move (.tmp 44), none, false⟩])
 (.seq (.region false [⟨(some 45), .move (.tmp 5), none, false⟩,
 ⟨(some 46), .bin .neq 118 (.tmp 45) (.const (.int .i64 0)), none, false⟩])
 (.cond (.tmp 46)
 (.seq (.region false [⟨(some 47), .move (.tmp 8), none, false⟩,
 ⟨(some 48), .move (.tmp 5), none, false⟩,
 ⟨(some 4), .move (.tmp 47), none, false⟩,
 ⟨(some 5), .move (.tmp 48), none, false⟩])
 (.ret))
 (.skip))))))
 (.region false [⟨(some 49), .bin .add 3 (.tmp 37) (.const (.int .i64 1)), none, false⟩,
 ⟨(some 37), .move (.tmp 49), none, false⟩])))
/-- patchbay/action.Check -/
def ac58 : AC :=
 .seq (.region false [⟨(some 2), .box false 31 (.tmp 0), none, false⟩,
 ⟨(some 4), .move (.const (.int .i64 0)), none, false⟩,
 ⟨(some 5), .move (.const (.int .i64 0)), none, false⟩])
 (.seq (.seq (.region false (⟨(some 10), .move (.tmp 1), none, false⟩ :: ⟨(some 11), .bin .lss 3 (.tmp 10) (.const (.int .i64 0)), none, false⟩ :: ⟨(some 12), .move (.tmp 11), none, false⟩ :: (ac58_G1 ++ [])))
 (.cond (.tmp 18)
 (.seq (.region false [⟨(some 4), .move (.const (.int .i64 (-1))), none, false⟩,
 ⟨(some 5), .move (.const (.int .i64 8)), none, false⟩])
 (.ret))
 (.skip)))
 (.seq (.region false [⟨(some 19), .faddr 4 1 false (.tmp 2), none, false⟩,
 ⟨(some 20), .load 1 false (.tmp 19), none, false⟩,
 ⟨(some 21), .move (.tmp 1), none, false⟩,
 ⟨(some 22), .iaddr 3 (.tmp 20) (.tmp 21), none, false⟩,
 ⟨(some 23), .load 3 true (.tmp 22), none, false⟩,
 ⟨(some 6), .alloc true 49 (.agg [(.string ⟨[].toArray⟩), (.slice none 0 0), (.slice none 0 0)].toArray), none, false⟩,
 ⟨none, .store 3 (.tmp 6) (.tmp 23), none, false⟩])
 (.seq (.seq (.region false [⟨(some 24), .load 3 true (.tmp 6), none, false⟩,
 ⟨(some 25), .call (.func 79) [(.tmp 24)], none, false⟩,
 ⟨(some 5), .move (.tmp 25), none, false⟩])
 (.seq (.region false [⟨(some 26), .move (.tmp 5), none, false⟩,
 ⟨(some 27), .bin .neq 118 (.tmp 26) (.const (.int .i64 0)), none, false⟩])
 (.cond (.tmp 27)
 (.seq (.region false [⟨(some 28), .move (.tmp 5), none, false⟩,
 ⟨(some 4), .move (.const (.int .i64 (-1))), none, false⟩,
 ⟨(some 5), .move (.tmp 28), none, false⟩])
 (.ret))
 (.skip))))
 (.seq (.region false [⟨(some 29), .load 9 true (.tmp 2), none, false⟩,
 ⟨(some 30), .faddr 1 1 false (.tmp 6), none, false⟩,
 ⟨(some 31), .load 1 false (.tmp 30), none, false⟩,
 ⟨(some 32), .build [(.string ⟨[].toArray⟩), (.slice none 0 0), (.slice none 0 0), (.slice none 0 0), (.slice none 0 0), (.slice none 0 0), (.slice none 0 0), (.slice none 0 0), (.slice none 0 0), (.slice none 0 0)] [(0, 9, (.tmp 29)), (9, 1, (.tmp 31))], none, false⟩,
 ⟨(some 33), .build [(.string ⟨[].toArray⟩), (.slice none 0 0), (.slice none 0 0), (.slice none 0 0), (.slice none 0 0), (.slice none 0 0), (.slice none 0 0), (.slice none 0 0), (.slice none 0 0), (.slice none 0 0)] [(0, 10, (.tmp 32))], none, false⟩,
 ⟨(some 7), .alloc true 143 (.agg [(.string ⟨[].toArray⟩), (.slice none 0 0), (.slice none 0 0), (.slice none 0 0), (.slice none 0 0), (.slice none 0 0), (.slice none 0 0), (.slice none 0 0), (.slice none 0 0), (.slice none 0 0)].toArray), none, false⟩,
 ⟨none, .store 10 (.tmp 7) (.tmp 33), none, false⟩])
 (.seq (.seq (.region false [⟨(some 34), .faddr 2 1 false (.tmp 6), none, false⟩,
 ⟨(some 35), .load 1 false (.tmp 34), none, false⟩,
 ⟨(some 36), .bi .len [47].toArray 3 [(.tmp 35)], none, false⟩,
 ⟨(some 37), .move (.const (.int .i64 0)), none, false⟩])
 (.block 0 (.loop ac58_L1)))
 (.seq (.region false [⟨(some 4), .move (.const (.int .i64 0)), none, false⟩,
 ⟨(some 5), .move (.const (.int .i64 0)), none, false⟩])
 (.ret)))))))
theorem text58 : FnText Tryz.prog 58 [6, 7, 9] 50 2 ac58 [(4, none), (5, none)] :=
 ⟨Tryz.call58, follows, Tryz.f58, _, Tryz.func58, rfl, rfl, by decide, by kernel_rfl, by kernel_rfl⟩

def ac79_G1 : List AOper :=
 [⟨(some 16), .faddr 2 1 false (.tmp 1), (some (15, false)), false⟩,
 ⟨(some 17), .load 1 false (.tmp 16), (some (15, false)), false⟩,
 ⟨(some 18), .bi .len [47].toArray 3 [(.tmp 17)], (some (15, false)), false⟩,
 ⟨(some 19), .bin .gtr 3 (.tmp 18) (.const (.int .i64 12)), (some (15, false)), false⟩,
 ⟨(some 20), .pick (.tmp 15) (.const (.bool true)) (.tmp 19), none, false⟩]
def ac79_G2 : List AOper :=
 [⟨(some 39), .faddr 1 1 false (.tmp 4), (some (38, false)), false⟩,
 ⟨(some 40), .load 1 false (.tmp 39), (some (38, false)), false⟩,
 ⟨(some 41), .bin .gtr 3 (.tmp 40) (.const (.int .i64 32)), (some (38, false)), false⟩,
 ⟨(some 42), .pick (.tmp 38) (.const (.bool true)) (.tmp 41), none, false⟩]
def ac79_L1 : AC :=
 .seq (.region false [⟨(some 25), .bin .lss 3 (.tmp 24) (.tmp 23), none, false⟩])
 (.seq (.cond (.tmp 25)
 (.skip)
 (.exit 1))
 (.seq (.block 2 (.seq (.region false [⟨(some 26), .move (.tmp 24), none, false⟩,
 ⟨(some 27), .iaddr 2 (.tmp 22) (.tmp 24), none, false⟩,
 ⟨(some 28), .load 2 true (.tmp 27), none, false⟩,
 ⟨(some 4), .alloc true 73 (.agg [(.string ⟨[].toArray⟩), (.int .i64 0)].toArray), none, false⟩,
 ⟨(some 3), .move (.tmp 26), none, false⟩,
 ⟨none, .store 2 (.tmp 4) (.tmp 28), none, false⟩])
 (.block 3 (.seq (.region false [⟨(some 30), .faddr 0 1 false (.tmp 4), none, false⟩,
 ⟨(some 31), .load 1 false (.tmp 30), none, false⟩,
 ⟨(some 32), .call (.func 89) [(.tmp 31)], none, false⟩,
 ⟨(some 33), .un .not (.tmp 32), none, false⟩,
 ⟨(some 29), .move (.tmp 33), none, false⟩])
 (.cond (.tmp 29)
 (.seq (.region false [⟨(some 2), .move (.const (.int .i64 6)), none, false⟩])
 (.ret))
 (.seq (.region false (⟨(some 35), .faddr 1 1 false (.tmp 4), none, false⟩ :: ⟨(some 36), .load 1 false (.tmp 35), none, false⟩ :: ⟨(some 37), .bin .lss 3 (.tmp 36) (.const (.int .i64 1)), none, false⟩ :: ⟨(some 38), .move (.tmp 37), none, false⟩ :: (ac79_G2 ++ [⟨(some 34), .move (.tmp 42), none, false⟩])))
 (.cond (.tmp 34)
 (.seq (.region false [⟨(some 2), .move (.const (.int .i64 10)), none, false⟩])
 (.ret))
 (.seq (.region false [⟨(some 44), .faddr 1 1 false (.tmp 1), none, false⟩,
 ⟨(some 45), .load 1 false (.tmp 44), none, false⟩,
 ⟨(some 46), .move (.tmp 3), none, false⟩,
 ⟨(some 47), .slice 23 2 (.tmp 45) none (some (.tmp 46)) none, none, false⟩,
 ⟨(some 48), .mkFunc (.func 91) [] [(.tmp 4)], none, false⟩,
 ⟨(some 49), .call (.func 90) [(.tmp 47), (.tmp 48)], none, false⟩,
 ⟨(some 43), .move (.tmp 49), none, false⟩])
 (.cond (.tmp 43)
 (.seq (.region false [⟨(some 2), .move (.const (.int .i64 7)), none, false⟩])
 (.ret))
 (.skip))))))))))
 (.region false [⟨(some 50), .bin .add 3 (.tmp 24) (.const (.int .i64 1)), none, false⟩,
 ⟨(some 24), .move (.tmp 50), none, false⟩])))
/-- patchbay/action.declaration -/
def ac79 : AC :=
 .seq (.region false [⟨(some 1), .box false 49 (.tmp 0), none, false⟩,
 ⟨(some 2), .move (.const (.int .i64 0)), none, false⟩])
 (.seq (.block 0 (.seq (.region false [⟨(some 6), .faddr 0 1 false (.tmp 1), none, false⟩,
 ⟨(some 7), .load 1 false (.tmp 6), none, false⟩,
 ⟨(some 8), .call (.func 89) [(.tmp 7)], none, false⟩,
 ⟨(some 9), .un .not (.tmp 8), none, false⟩,
 ⟨(some 5), .move (.tmp 9), none, false⟩])
 (.cond (.tmp 5)
 (.seq (.region false [⟨(some 2), .move (.const (.int .i64 6)), none, false⟩])
 (.ret))
 (.seq (.region false (⟨(some 11), .faddr 1 1 false (.tmp 1), none, false⟩ :: ⟨(some 12), .load 1 false (.tmp 11), none, false⟩ :: ⟨(some 13), .bi .len [23].toArray 3 [(.tmp 12)], none, false⟩ :: ⟨(some 14), .bin .gtr 3 (.tmp 13) (.const (.int .i64 4)), none, false⟩ :: ⟨(some 15), .move (.tmp 14), none, false⟩ :: (ac79_G1 ++ [⟨(some 10), .move (.tmp 20), none, false⟩])))
 (.cond (.tmp 10)
 (.seq (.region false [⟨(some 2), .move (.const (.int .i64 12)), none, false⟩])
 (.ret))
 (.skip))))))
 (.seq (.seq (.region false [⟨(some 21), .faddr 1 1 false (.tmp 1), none, false⟩,
 ⟨(some 22), .load 1 false (.tmp 21), none, false⟩,
 ⟨(some 23), .bi .len [23].toArray 3 [(.tmp 22)], none, false⟩,
 ⟨(some 24), .move (.const (.int .i64 0)), none, false⟩])
 (.block 1 (.loop ac79_L1)))
 (.seq (.region false [⟨(some 2), .move (.const (.int .i64 0)), none, false⟩])
 (.ret))))
theorem text79 : FnText Tryz.prog 79 [4] 51 1 ac79 [(2, none)] :=
 ⟨Tryz.call79, follows, Tryz.f79, _, Tryz.func79, rfl, rfl, by decide, by kernel_rfl, by kernel_rfl⟩

def ac89_G1 : List AOper :=
 [⟨(some 7), .move (.tmp 0), (some (6, false)), false⟩,
 ⟨(some 8), .bi .len [9].toArray 3 [(.tmp 7)], (some (6, false)), false⟩,
 ⟨(some 9), .bin .gtr 3 (.tmp 8) (.const (.int .i64 16)), (some (6, false)), false⟩,
 ⟨(some 10), .pick (.tmp 6) (.const (.bool true)) (.tmp 9), none, false⟩]
def ac89_G2 : List AOper :=
 [⟨(some 12), .move (.tmp 0), (some (11, false)), false⟩,
 ⟨(some 13), .indexS 9 (.tmp 12) (.const (.int .i64 0)), (some (11, false)), false⟩,
 ⟨(some 14), .call (.func 97) [(.tmp 13)], (some (11, false)), false⟩,
 ⟨(some 15), .un .not (.tmp 14), (some (11, false)), false⟩,
 ⟨(some 16), .pick (.tmp 11) (.const (.bool true)) (.tmp 15), none, false⟩]
/-- patchbay/lexer.IsIdentifier -/
def ac89 : AC :=
 .seq (.region false [⟨(some 2), .move (.const (.bool false)), none, false⟩])
 (.seq (.seq (.region false (⟨(some 3), .move (.tmp 0), none, false⟩ :: ⟨(some 4), .bi .len [9].toArray 3 [(.tmp 3)], none, false⟩ :: ⟨(some 5), .bin .eql 3 (.tmp 4) (.const (.int .i64 0)), none, false⟩ :: ⟨(some 6), .move (.tmp 5), none, false⟩ :: (ac89_G1 ++ (⟨(some 11), .move (.tmp 10), none, false⟩ :: (ac89_G2 ++ [])))))
 (.cond (.tmp 16)
 (.seq (.region false [⟨(some 2), .move (.const (.bool false)), none, false⟩])
 (.ret))
 (.skip)))
 (.seq (.region false [⟨(some 17), .move (.tmp 0), none, false⟩,
 ⟨(some 18), .call (.func 98) [(.tmp 17), (.func 99)], none, false⟩,
 ⟨(some 19), .move (.tmp 0), none, false⟩,
 ⟨(some 20), .bi .len [9].toArray 3 [(.tmp 19)], none, false⟩,
 ⟨(some 21), .bin .eql 3 (.tmp 18) (.tmp 20), none, false⟩,
 ⟨(some 2), .move (.tmp 21), none, false⟩])
 (.ret)))
theorem text89 : FnText Tryz.prog 89 [] 22 1 ac89 [(2, none)] :=
 ⟨Tryz.call89, follows, Tryz.f89, _, Tryz.func89, rfl, rfl, by decide, by kernel_rfl, by kernel_rfl⟩

def ac97_G1 : List AOper :=
 [⟨(some 6), .move (.tmp 0), (some (5, true)), false⟩,
 ⟨(some 7), .bin .leq 5 (.tmp 6) (.const (.int .u8 122)), (some (5, true)), false⟩,
 ⟨(some 8), .pick (.tmp 5) (.tmp 7) (.const (.bool false)), none, false⟩]
def ac97_G3 : List AOper :=
 [⟨(some 13), .move (.tmp 0), (some (12, true)), false⟩,
 ⟨(some 14), .bin .leq 5 (.tmp 13) (.const (.int .u8 90)), (some (12, true)), false⟩,
 ⟨(some 15), .pick (.tmp 12) (.tmp 14) (.const (.bool false)), (some (9, false)), false⟩]
def ac97_G2 : List AOper :=
 (⟨(some 10), .move (.tmp 0), (some (9, false)), false⟩ :: ⟨(some 11), .bin .geq 5 (.tmp 10) (.const (.int .u8 65)), (some (9, false)), false⟩ :: ⟨(some 12), .move (.tmp 11), (some (9, false)), false⟩ :: (ac97_G3 ++ [⟨(some 16), .pick (.tmp 9) (.const (.bool true)) (.tmp 15), none, false⟩]))
/-- patchbay/lexer.isLetter -/
def ac97 : AC :=
 .seq (.region false [⟨(some 2), .move (.const (.bool false)), none, false⟩])
 (.seq (.region false (⟨(some 3), .move (.tmp 0), none, false⟩ :: ⟨(some 4), .bin .geq 5 (.tmp 3) (.const (.int .u8 97)), none, false⟩ :: ⟨(some 5), .move (.tmp 4), none, false⟩ :: (ac97_G1 ++ (⟨(some 9), .move (.tmp 8), none, false⟩ :: (ac97_G2 ++ [⟨(some 2), .move (.tmp 16), none, false⟩])))))
 (.ret))
theorem text97 : FnText Tryz.prog 97 [] 17 1 ac97 [(2, none)] :=
 ⟨Tryz.call97, follows, Tryz.f97, _, Tryz.func97, rfl, rfl, by decide, by kernel_rfl, by kernel_rfl⟩

def ac98_G1 : List AOper :=
 [⟨(some 11), .move (.tmp 1), (some (10, true)), false⟩,
 ⟨(some 12), .move (.tmp 0), (some (10, true)), false⟩,
 ⟨(some 13), .move (.tmp 5), (some (10, true)), false⟩,
 ⟨(some 14), .indexS 9 (.tmp 12) (.tmp 13), (some (10, true)), false⟩,
 ⟨(some 15), .call (.tmp 11) [(.tmp 14)], (some (10, true)), false⟩,
 ⟨(some 16), .pick (.tmp 10) (.tmp 15) (.const (.bool false)), none, false⟩]
def ac98_L1 : AC :=
 .seq (.seq (.region false (⟨(some 6), .move (.tmp 5), none, false⟩ :: ⟨(some 7), .move (.tmp 0), none, false⟩ :: ⟨(some 8), .bi .len [9].toArray 3 [(.tmp 7)], none, false⟩ :: ⟨(some 9), .bin .lss 3 (.tmp 6) (.tmp 8), none, false⟩ :: ⟨(some 10), .move (.tmp 9), none, false⟩ :: (ac98_G1 ++ [])))
 (.cond (.tmp 16)
 (.skip)
 (.exit 0)))
 (.block 1 (.region false [⟨(some 17), .move (.tmp 5), none, false⟩,
 ⟨(some 18), .bin .add 3 (.tmp 17) (.const (.int .i64 1)), none, false⟩,
 ⟨(some 5), .move (.tmp 18), none, false⟩]))
/-- patchbay/lexer.extent -/
def ac98 : AC :=
 .seq (.region false [⟨(some 4), .move (.const (.int .i64 0)), none, false⟩])
 (.seq (.region false [⟨(some 5), .move (.const (.int .i64 0)), none, false⟩])
 (.seq (.block 0 (.loop ac98_L1))
 (.seq (.region false [⟨(some 19), .move (.tmp 5), none, false⟩,
 ⟨(some 4), .move (.tmp 19), none, false⟩])
 (.ret))))
theorem text98 : FnText Tryz.prog 98 [] 20 2 ac98 [(4, none)] :=
 ⟨Tryz.call98, follows, Tryz.f98, _, Tryz.func98, rfl, rfl, by decide, by kernel_rfl, by kernel_rfl⟩

def ac99_G1 : List AOper :=
 [⟨(some 6), .move (.tmp 0), (some (5, false)), false⟩,
 ⟨(some 7), .call (.func 100) [(.tmp 6)], (some (5, false)), false⟩,
 ⟨(some 8), .pick (.tmp 5) (.const (.bool true)) (.tmp 7), none, false⟩]
def ac99_G2 : List AOper :=
 [⟨(some 10), .move (.tmp 0), (some (9, false)), false⟩,
 ⟨(some 11), .bin .eql 5 (.tmp 10) (.const (.int .u8 95)), (some (9, false)), false⟩,
 ⟨(some 12), .pick (.tmp 9) (.const (.bool true)) (.tmp 11), none, false⟩]
/-- patchbay/lexer.IsIdentifier$1 -/
def ac99 : AC :=
 .seq (.region false [⟨(some 2), .move (.const (.bool false)), none, false⟩])
 (.seq (.region false (⟨(some 3), .move (.tmp 0), none, false⟩ :: ⟨(some 4), .call (.func 97) [(.tmp 3)], none, false⟩ :: ⟨(some 5), .move (.tmp 4), none, false⟩ :: (ac99_G1 ++ (⟨(some 9), .move (.tmp 8), none, false⟩ :: (ac99_G2 ++ [⟨(some 2), .move (.tmp 12), none, false⟩])))))
 (.ret))
theorem text99 : FnText Tryz.prog 99 [] 13 1 ac99 [(2, none)] :=
 ⟨Tryz.call99, follows, Tryz.f99, _, Tryz.func99, rfl, rfl, by decide, by kernel_rfl, by kernel_rfl⟩

def ac100_G1 : List AOper :=
 [⟨(some 6), .move (.tmp 0), (some (5, true)), false⟩,
 ⟨(some 7), .bin .leq 5 (.tmp 6) (.const (.int .u8 57)), (some (5, true)), false⟩,
 ⟨(some 8), .pick (.tmp 5) (.tmp 7) (.const (.bool false)), none, false⟩]
/-- patchbay/lexer.isDigit -/
def ac100 : AC :=
 .seq (.region false [⟨(some 2), .move (.const (.bool false)), none, false⟩])
 (.seq (.region false (⟨(some 3), .move (.tmp 0), none, false⟩ :: ⟨(some 4), .bin .geq 5 (.tmp 3) (.const (.int .u8 48)), none, false⟩ :: ⟨(some 5), .move (.tmp 4), none, false⟩ :: (ac100_G1 ++ [⟨(some 2), .move (.tmp 8), none, false⟩])))
 (.ret))
theorem text100 : FnText Tryz.prog 100 [] 9 1 ac100 [(2, none)] :=
 ⟨Tryz.call100, follows, Tryz.f100, _, Tryz.func100, rfl, rfl, by decide, by kernel_rfl, by kernel_rfl⟩


/-- patchbay/action.declaration$1 -/
def ac91 : AC :=
 .seq (.region false [⟨(some 2), .box false 73 (.tmp 0), none, false⟩,
 ⟨(some 3), .move (.const (.bool false)), none, false⟩])
 (.seq (.region false [⟨(some 4), .faddr 0 1 false (.tmp 2), none, false⟩,
 ⟨(some 5), .load 1 false (.tmp 4), none, false⟩,
 ⟨(some 6), .faddr 0 1 false (.tmp 1), none, false⟩,
 ⟨(some 7), .load 1 false (.tmp 6), none, false⟩,
 ⟨(some 8), .bin .eql 9 (.tmp 5) (.tmp 7), none, false⟩,
 ⟨(some 3), .move (.tmp 8), none, false⟩])
 (.ret))
theorem text91 : FnText Tryz.prog 91 [] 9 2 ac91 [(3, none)] :=
 ⟨Tryz.call91, follows, Tryz.f91, _, Tryz.func91, rfl, rfl, by decide, by kernel_rfl, by kernel_rfl⟩


/-- slices.ContainsFunc[[]patchbay/api.Field,patchbay/api.Field] -/
def ac90 : AC :=
 .seq (.region false [⟨(some 4), .move (.const (.bool false)), none, false⟩])
 (.seq (.region false [⟨(some 5), .move (.tmp 0), none, false⟩,
 ⟨(some 6), .move (.tmp 1), none, false⟩,
 ⟨(some 7), .call (.func 101) [(.tmp 5), (.tmp 6)], none, false⟩,
 ⟨(some 8), .bin .geq 3 (.tmp 7) (.const (.int .i64 0)), none, false⟩,
 ⟨(some 4), .move (.tmp 8), none, false⟩])
 (.ret))
theorem text90 : FnText Tryz.prog 90 [] 9 2 ac90 [(4, none)] :=
 ⟨Tryz.call90, follows, Tryz.f90, _, Tryz.func90, rfl, rfl, by decide, by kernel_rfl, by kernel_rfl⟩

def ac101_L1 : AC :=
 .seq (.region false [⟨(some 9), .bin .lss 3 (.tmp 8) (.tmp 7), none, false⟩])
 (.seq (.cond (.tmp 9)
 (.skip)
 (.exit 0))
 (.seq (.block 1 (.seq (.region false [⟨(some 10), .move (.tmp 8), none, false⟩,
 ⟨(some 5), .move (.tmp 10), none, false⟩])
 (.seq (.region false [⟨(some 11), .move (.tmp 1), none, false⟩,
 ⟨(some 12), .move (.tmp 0), none, false⟩,
 ⟨(some 13), .move (.tmp 5), none, false⟩,
 ⟨(some 14), .iaddr 2 (.tmp 12) (.tmp 13), none, false⟩,
 ⟨(some 15), .load 2 true (.tmp 14), none, false⟩,
 ⟨(some 16), .call (.tmp 11) [(.tmp 15)], none, false⟩])
 (.cond (.tmp 16)
 (.seq (.region false [⟨(some 17), .move (.tmp 5), none, false⟩,
 ⟨(some 4), .move (.tmp 17), none, false⟩])
 (.ret))
 (.skip)))))
 (.region false [⟨(some 18), .bin .add 3 (.tmp 8) (.const (.int .i64 1)), none, false⟩,
 ⟨(some 8), .move (.tmp 18), none, false⟩])))
/-- slices.IndexFunc[[]patchbay/api.Field,patchbay/api.Field] -/
def ac101 : AC :=
 .seq (.region false [⟨(some 4), .move (.const (.int .i64 0)), none, false⟩])
 (.seq (.seq (.region false [⟨(some 6), .move (.tmp 0), none, false⟩,
 ⟨(some 7), .bi .len [23].toArray 3 [(.tmp 6)], none, false⟩,
 ⟨(some 8), .move (.const (.int .i64 0)), none, false⟩])
 (.block 0 (.loop ac101_L1)))
 (.seq (.region false [⟨(some 4), .move (.const (.int .i64 (-1))), none, false⟩])
 (.ret)))
theorem text101 : FnText Tryz.prog 101 [] 19 2 ac101 [(4, none)] :=
 ⟨Tryz.call101, follows, Tryz.f101, _, Tryz.func101, rfl, rfl, by decide, by kernel_rfl, by kernel_rfl⟩

def ac80_G1 : List AOper :=
 [⟨(some 25), .faddr 3 1 false (.tmp 3), (some (24, true)), false⟩,
 ⟨(some 26), .load 1 false (.tmp 25), (some (24, true)), false⟩,
 ⟨(some 27), .faddr 3 1 false (.tmp 5), (some (24, true)), false⟩,
 ⟨(some 28), .load 1 false (.tmp 27), (some (24, true)), false⟩,
 ⟨(some 29), .bi .len [24].toArray 3 [(.tmp 28)], (some (24, true)), false⟩,
 ⟨(some 30), .bin .lss 3 (.tmp 26) (.tmp 29), (some (24, true)), false⟩,
 ⟨(some 31), .pick (.tmp 24) (.tmp 30) (.const (.bool false)), none, false⟩]
def ac80_G2 : List AOper :=
 [⟨(some 50), .faddr 4 1 false (.tmp 3), (some (49, false)), false⟩,
 ⟨(some 51), .load 1 false (.tmp 50), (some (49, false)), false⟩,
 ⟨(some 52), .faddr 1 1 false (.tmp 5), (some (49, false)), false⟩,
 ⟨(some 53), .load 1 false (.tmp 52), (some (49, false)), false⟩,
 ⟨(some 54), .bi .len [22].toArray 3 [(.tmp 53)], (some (49, false)), false⟩,
 ⟨(some 55), .bin .geq 3 (.tmp 51) (.tmp 54), (some (49, false)), false⟩,
 ⟨(some 56), .pick (.tmp 49) (.const (.bool true)) (.tmp 55), none, false⟩]
def ac80_G4 : List AOper :=
 [⟨(some 67), .move (.tmp 7), (some (66, true)), false⟩,
 ⟨(some 68), .un .not (.tmp 67), (some (66, true)), false⟩,
 ⟨(some 69), .pick (.tmp 66) (.tmp 68) (.const (.bool false)), (some (62, false)), false⟩]
def ac80_G3 : List AOper :=
 (⟨(some 63), .faddr 0 1 false (.tmp 3), (some (62, false)), false⟩ :: ⟨(some 64), .load 1 false (.tmp 63), (some (62, false)), false⟩ :: ⟨(some 65), .bin .eql 3 (.tmp 64) (.const (.int .i64 4)), (some (62, false)), false⟩ :: ⟨(some 66), .move (.tmp 65), (some (62, false)), false⟩ :: (ac80_G4 ++ [⟨(some 70), .pick (.tmp 62) (.const (.bool true)) (.tmp 69), none, false⟩]))
/-- (patchbay/action.checker).statement -/
def ac80 : AC :=
 .seq (.region false [⟨(some 2), .box false 143 (.tmp 0), none, false⟩,
 ⟨(some 3), .box false 75 (.tmp 1), none, false⟩,
 ⟨(some 4), .move (.const (.int .i64 0)), none, false⟩])
 (.seq (.region false [⟨(some 11), .faddr 0 10 true (.tmp 2), none, false⟩,
 ⟨(some 12), .faddr 0 9 true (.tmp 11), none, false⟩,
 ⟨(some 13), .load 9 true (.tmp 12), none, false⟩,
 ⟨(some 5), .alloc true 31 (.agg [(.string ⟨[].toArray⟩), (.slice none 0 0), (.slice none 0 0), (.slice none 0 0), (.slice none 0 0), (.slice none 0 0), (.slice none 0 0), (.slice none 0 0), (.slice none 0 0)].toArray), none, false⟩,
 ⟨none, .store 9 (.tmp 5) (.tmp 13), none, false⟩])
 (.seq (.region false [⟨(some 15), .load 9 true (.tmp 5), none, false⟩,
 ⟨(some 16), .faddr 1 2 true (.tmp 3), none, false⟩,
 ⟨(some 17), .load 2 true (.tmp 16), none, false⟩,
 ⟨(some 18), .call (.func 92) [(.tmp 15), (.tmp 17)], none, false⟩,
 ⟨(some 14), .move (.tmp 18), none, false⟩,
 ⟨(some 19), .extract (.tmp 14) 0, none, false⟩,
 ⟨(some 20), .extract (.tmp 14) 1, none, false⟩,
 ⟨(some 6), .move (.tmp 19), none, false⟩,
 ⟨(some 7), .move (.tmp 20), none, false⟩])
 (.seq (.region false (⟨(some 21), .faddr 3 1 false (.tmp 3), none, false⟩ :: ⟨(some 22), .load 1 false (.tmp 21), none, false⟩ :: ⟨(some 23), .bin .geq 3 (.tmp 22) (.const (.int .i64 0)), none, false⟩ :: ⟨(some 24), .move (.tmp 23), none, false⟩ :: (ac80_G1 ++ [⟨(some 8), .move (.tmp 31), none, false⟩])))
 (.seq (.seq (.region false [⟨(some 32), .faddr 0 1 false (.tmp 3), none, false⟩,
 ⟨(some 33), .load 1 false (.tmp 32), none, false⟩])
 (.block 0 (.seq (.region false [⟨(some 35), .bin .eql 3 (.tmp 33) (.const (.int .i64 1)), none, false⟩,
 ⟨(some 34), .move (.tmp 35), none, false⟩])
 (.cond (.tmp 34)
 (.seq (.seq (.region false [⟨(some 36), .move (.tmp 7), none, false⟩,
 ⟨(some 37), .un .not (.tmp 36), none, false⟩])
 (.cond (.tmp 37)
 (.seq (.region false [⟨(some 4), .move (.const (.int .i64 8)), none, false⟩])
 (.ret))
 (.skip)))
 (.seq (.region false [⟨(some 38), .load 10 true (.tmp 2), none, false⟩,
 ⟨(some 39), .faddr 6 1 false (.tmp 3), none, false⟩,
 ⟨(some 40), .load 1 false (.tmp 39), none, false⟩,
 ⟨(some 41), .move (.tmp 6), none, false⟩,
 ⟨(some 42), .call (.func 93) [(.tmp 38), (.tmp 40), (.tmp 41)], none, false⟩,
 ⟨(some 4), .move (.tmp 42), none, false⟩])
 (.ret)))
 (.seq (.seq (.region false [⟨(some 44), .bin .eql 3 (.tmp 33) (.const (.int .i64 2)), none, false⟩,
 ⟨(some 43), .move (.tmp 44), none, false⟩])
 (.cond (.tmp 43)
 (.skip)
 (.region false [⟨(some 45), .bin .eql 3 (.tmp 33) (.const (.int .i64 3)), none, false⟩,
 ⟨(some 43), .move (.tmp 45), none, false⟩])))
 (.cond (.tmp 43)
 (.seq (.seq (.region false (⟨(some 46), .faddr 4 1 false (.tmp 3), none, false⟩ :: ⟨(some 47), .load 1 false (.tmp 46), none, false⟩ :: ⟨(some 48), .bin .lss 3 (.tmp 47) (.const (.int .i64 0)), none, false⟩ :: ⟨(some 49), .move (.tmp 48), none, false⟩ :: (ac80_G2 ++ [])))
 (.cond (.tmp 56)
 (.seq (.region false [⟨(some 4), .move (.const (.int .i64 8)), none, false⟩])
 (.ret))
 (.skip)))
 (.seq (.region false [⟨(some 4), .move (.const (.int .i64 0)), none, false⟩])
 (.ret)))
 (.seq (.seq (.region false [⟨(some 58), .bin .eql 3 (.tmp 33) (.const (.int .i64 4)), none, false⟩,
 ⟨(some 57), .move (.tmp 58), none, false⟩])
 (.cond (.tmp 57)
 (.skip)
 (.region false [⟨(some 59), .bin .eql 3 (.tmp 33) (.const (.int .i64 5)), none, false⟩,
 ⟨(some 57), .move (.tmp 59), none, false⟩])))
 (.cond (.tmp 57)
 (.seq (.seq (.region false (⟨(some 60), .move (.tmp 8), none, false⟩ :: ⟨(some 61), .un .not (.tmp 60), none, false⟩ :: ⟨(some 62), .move (.tmp 61), none, false⟩ :: (ac80_G3 ++ [])))
 (.cond (.tmp 70)
 (.seq (.region false [⟨(some 4), .move (.const (.int .i64 8)), none, false⟩])
 (.ret))
 (.skip)))
 (.seq (.seq (.region false [⟨(some 72), .faddr 5 1 false (.tmp 3), none, false⟩,
 ⟨(some 73), .load 1 false (.tmp 72), none, false⟩,
 ⟨(some 74), .faddr 0 10 true (.tmp 2), none, false⟩,
 ⟨(some 75), .load 10 true (.tmp 74), none, false⟩,
 ⟨(some 76), .call (.func 94) [(.tmp 73), (.tmp 75)], none, false⟩,
 ⟨(some 71), .move (.tmp 76), none, false⟩,
 ⟨(some 77), .extract (.tmp 71) 0, none, false⟩,
 ⟨(some 78), .extract (.tmp 71) 1, none, false⟩,
 ⟨(some 9), .move (.tmp 77), none, false⟩,
 ⟨(some 10), .move (.tmp 78), none, false⟩])
 (.seq (.region false [⟨(some 79), .move (.tmp 10), none, false⟩,
 ⟨(some 80), .bin .neq 118 (.tmp 79) (.const (.int .i64 0)), none, false⟩])
 (.cond (.tmp 80)
 (.seq (.region false [⟨(some 81), .move (.tmp 10), none, false⟩,
 ⟨(some 4), .move (.tmp 81), none, false⟩])
 (.ret))
 (.skip))))
 (.seq (.seq (.region false [⟨(some 82), .faddr 0 1 false (.tmp 3), none, false⟩,
 ⟨(some 83), .load 1 false (.tmp 82), none, false⟩,
 ⟨(some 84), .bin .eql 3 (.tmp 83) (.const (.int .i64 5)), none, false⟩])
 (.cond (.tmp 84)
 (.seq (.region true [⟨(some 85), .load 10 true (.tmp 2), none, false⟩,
 ⟨(some 86), .faddr 6 1 false (.tmp 3), none, false⟩,
 ⟨(some 87), .load 1 false (.tmp 86), none, false⟩,
 ⟨(some 88), .faddr 3 1 false (.tmp 5), none, false⟩,
 ⟨(some 89), .load 1 false (.tmp 88), none, false⟩,
 ⟨(some 90), .faddr 3 1 false (.tmp 3), none, false⟩,
 ⟨(some 91), .load 1 false (.tmp 90), none, false⟩,
 ⟨(some 92), .iaddr 3 (.tmp 89) (.tmp 91), none, false⟩,
 ⟨(some 93), .faddr 1 1 false (.tmp 92), none, false⟩,
 ⟨(some 94), .load 1 false (.tmp 93), none, false⟩,
 ⟨(some 95), .call (.func 93) [(.tmp 85), (.tmp 87), (.tmp 94)], none, false⟩,
 ⟨(some 4), .move (.tmp 95), none, false⟩])
 (.ret))
 (.skip)))
 (.seq (.seq (.region false [⟨(some 96), .move (.tmp 6), none, false⟩,
 ⟨(some 97), .faddr 3 1 false (.tmp 5), none, false⟩,
 ⟨(some 98), .load 1 false (.tmp 97), none, false⟩,
 ⟨(some 99), .faddr 3 1 false (.tmp 3), none, false⟩,
 ⟨(some 100), .load 1 false (.tmp 99), none, false⟩,
 ⟨(some 101), .iaddr 3 (.tmp 98) (.tmp 100), none, false⟩,
 ⟨(some 102), .faddr 1 1 false (.tmp 101), none, false⟩,
 ⟨(some 103), .load 1 false (.tmp 102), none, false⟩,
 ⟨(some 104), .bin .neq 3 (.tmp 96) (.tmp 103), none, false⟩])
 (.cond (.tmp 104)
 (.seq (.region false [⟨(some 4), .move (.const (.int .i64 10)), none, false⟩])
 (.ret))
 (.skip)))
 (.seq (.region false [⟨(some 4), .move (.const (.int .i64 0)), none, false⟩])
 (.ret))))))
 (.skip)))))))))
 (.seq (.region false [⟨(some 4), .move (.const (.int .i64 11)), none, false⟩])
 (.ret))))))
theorem text80 : FnText Tryz.prog 80 [5] 105 2 ac80 [(4, none)] :=
 ⟨Tryz.call80, follows, Tryz.f80, _, Tryz.func80, rfl, rfl, by decide, by kernel_rfl, by kernel_rfl⟩

def ac92_G1 : List AOper :=
 [⟨(some 16), .faddr 0 1 false (.tmp 3), (some (15, false)), false⟩,
 ⟨(some 17), .load 1 false (.tmp 16), (some (15, false)), false⟩,
 ⟨(some 18), .faddr 1 1 false (.tmp 2), (some (15, false)), false⟩,
 ⟨(some 19), .load 1 false (.tmp 18), (some (15, false)), false⟩,
 ⟨(some 20), .bi .len [22].toArray 3 [(.tmp 19)], (some (15, false)), false⟩,
 ⟨(some 21), .bin .geq 3 (.tmp 17) (.tmp 20), (some (15, false)), false⟩,
 ⟨(some 22), .pick (.tmp 15) (.const (.bool true)) (.tmp 21), none, false⟩]
def ac92_G2 : List AOper :=
 [⟨(some 34), .faddr 1 1 false (.tmp 3), (some (33, false)), false⟩,
 ⟨(some 35), .load 1 false (.tmp 34), (some (33, false)), false⟩,
 ⟨(some 36), .move (.tmp 6), (some (33, false)), false⟩,
 ⟨(some 37), .bi .len [23].toArray 3 [(.tmp 36)], (some (33, false)), false⟩,
 ⟨(some 38), .bin .geq 3 (.tmp 35) (.tmp 37), (some (33, false)), false⟩,
 ⟨(some 39), .pick (.tmp 33) (.const (.bool true)) (.tmp 38), none, false⟩]
/-- patchbay/action.width -/
def ac92 : AC :=
 .seq (.region false [⟨(some 2), .box false 31 (.tmp 0), none, false⟩,
 ⟨(some 3), .box false 33 (.tmp 1), none, false⟩,
 ⟨(some 4), .move (.const (.int .i64 0)), none, false⟩,
 ⟨(some 5), .move (.const (.bool false)), none, false⟩])
 (.seq (.region false [⟨(some 7), .faddr 2 1 false (.tmp 2), none, false⟩,
 ⟨(some 8), .load 1 false (.tmp 7), none, false⟩,
 ⟨(some 6), .move (.tmp 8), none, false⟩])
 (.seq (.seq (.region false [⟨(some 9), .faddr 0 1 false (.tmp 3), none, false⟩,
 ⟨(some 10), .load 1 false (.tmp 9), none, false⟩,
 ⟨(some 11), .bin .neq 3 (.tmp 10) (.const (.int .i64 (-1))), none, false⟩])
 (.cond (.tmp 11)
 (.seq (.seq (.region false (⟨(some 12), .faddr 0 1 false (.tmp 3), none, false⟩ :: ⟨(some 13), .load 1 false (.tmp 12), none, false⟩ :: ⟨(some 14), .bin .lss 3 (.tmp 13) (.const (.int .i64 0)), none, false⟩ :: ⟨(some 15), .move (.tmp 14), none, false⟩ :: (ac92_G1 ++ [])))
 (.cond (.tmp 22)
 (.seq (.region false [⟨(some 4), .move (.const (.int .i64 0)), none, false⟩,
 ⟨(some 5), .move (.const (.bool false)), none, false⟩])
 (.ret))
 (.skip)))
 (.region false [⟨(some 23), .faddr 1 1 false (.tmp 2), none, false⟩,
 ⟨(some 24), .load 1 false (.tmp 23), none, false⟩,
 ⟨(some 25), .faddr 0 1 false (.tmp 3), none, false⟩,
 ⟨(some 26), .load 1 false (.tmp 25), none, false⟩,
 ⟨(some 27), .iaddr 2 (.tmp 24) (.tmp 26), none, false⟩,
 ⟨(some 28), .faddr 1 1 false (.tmp 27), none, false⟩,
 ⟨(some 29), .load 1 false (.tmp 28), none, false⟩,
 ⟨(some 6), .move (.tmp 29), none, false⟩]))
 (.skip)))
 (.seq (.seq (.region false (⟨(some 30), .faddr 1 1 false (.tmp 3), none, false⟩ :: ⟨(some 31), .load 1 false (.tmp 30), none, false⟩ :: ⟨(some 32), .bin .lss 3 (.tmp 31) (.const (.int .i64 0)), none, false⟩ :: ⟨(some 33), .move (.tmp 32), none, false⟩ :: (ac92_G2 ++ [])))
 (.cond (.tmp 39)
 (.seq (.region false [⟨(some 4), .move (.const (.int .i64 0)), none, false⟩,
 ⟨(some 5), .move (.const (.bool false)), none, false⟩])
 (.ret))
 (.skip)))
 (.seq (.region false [⟨(some 40), .move (.tmp 6), none, false⟩,
 ⟨(some 41), .faddr 1 1 false (.tmp 3), none, false⟩,
 ⟨(some 42), .load 1 false (.tmp 41), none, false⟩,
 ⟨(some 43), .iaddr 2 (.tmp 40) (.tmp 42), none, false⟩,
 ⟨(some 44), .faddr 1 1 false (.tmp 43), none, false⟩,
 ⟨(some 45), .load 1 false (.tmp 44), none, false⟩,
 ⟨(some 4), .move (.tmp 45), none, false⟩,
 ⟨(some 5), .move (.const (.bool true)), none, false⟩])
 (.ret)))))
theorem text92 : FnText Tryz.prog 92 [] 46 2 ac92 [(4, none), (5, none)] :=
 ⟨Tryz.call92, follows, Tryz.f92, _, Tryz.func92, rfl, rfl, by decide, by kernel_rfl, by kernel_rfl⟩

def ac93_G1 : List AOper :=
 [⟨(some 19), .move (.tmp 7), (some (18, true)), false⟩,
 ⟨(some 20), .move (.tmp 2), (some (18, true)), false⟩,
 ⟨(some 21), .bin .neq 3 (.tmp 19) (.tmp 20), (some (18, true)), false⟩,
 ⟨(some 22), .pick (.tmp 18) (.tmp 21) (.const (.bool false)), none, false⟩]
/-- (patchbay/action.checker).value -/
def ac93 : AC :=
 .seq (.region false [⟨(some 3), .box false 143 (.tmp 0), none, false⟩,
 ⟨(some 6), .move (.const (.int .i64 0)), none, false⟩])
 (.seq (.region false [⟨(some 10), .move (.tmp 1), none, false⟩,
 ⟨(some 11), .faddr 0 10 true (.tmp 3), none, false⟩,
 ⟨(some 12), .load 10 true (.tmp 11), none, false⟩,
 ⟨(some 13), .call (.func 94) [(.tmp 10), (.tmp 12)], none, false⟩,
 ⟨(some 9), .move (.tmp 13), none, false⟩,
 ⟨(some 14), .extract (.tmp 9) 0, none, false⟩,
 ⟨(some 15), .extract (.tmp 9) 1, none, false⟩,
 ⟨(some 7), .move (.tmp 14), none, false⟩,
 ⟨(some 8), .move (.tmp 15), none, false⟩])
 (.seq (.seq (.region false (⟨(some 16), .move (.tmp 8), none, false⟩ :: ⟨(some 17), .bin .eql 118 (.tmp 16) (.const (.int .i64 0)), none, false⟩ :: ⟨(some 18), .move (.tmp 17), none, false⟩ :: (ac93_G1 ++ [])))
 (.cond (.tmp 22)
 (.seq (.region false [⟨(some 6), .move (.const (.int .i64 10)), none, false⟩])
 (.ret))
 (.skip)))
 (.seq (.region false [⟨(some 23), .move (.tmp 8), none, false⟩,
 ⟨(some 6), .move (.tmp 23), none, false⟩])
 (.ret))))
theorem text93 : FnText Tryz.prog 93 [] 24 3 ac93 [(6, none)] :=
 ⟨Tryz.call93, follows, Tryz.f93, _, Tryz.func93, rfl, rfl, by decide, by kernel_rfl, by kernel_rfl⟩


/-- patchbay/expr.Check -/
def ac94 : AC :=
 .seq (.region false [⟨(some 3), .box false 141 (.tmp 1), none, false⟩,
 ⟨(some 4), .move (.const (.int .i64 0)), none, false⟩,
 ⟨(some 5), .move (.const (.int .i64 0)), none, false⟩])
 (.seq (.seq (.region false [⟨(some 7), .move (.tmp 0), none, false⟩,
 ⟨(some 8), .bi .len [63].toArray 3 [(.tmp 7)], none, false⟩,
 ⟨(some 9), .bin .gtr 3 (.tmp 8) (.const (.int .i64 24)), none, false⟩])
 (.cond (.tmp 9)
 (.seq (.region false [⟨(some 4), .move (.const (.int .i64 0)), none, false⟩,
 ⟨(some 5), .move (.const (.int .i64 12)), none, false⟩])
 (.ret))
 (.skip)))
 (.seq (.region false [⟨(some 11), .load 10 true (.tmp 3), none, false⟩,
 ⟨(some 12), .move (.tmp 0), none, false⟩,
 ⟨(some 13), .call (.func 102) [(.tmp 11), (.tmp 12), (.const (.int .i64 0))], none, false⟩,
 ⟨(some 10), .move (.tmp 13), none, false⟩,
 ⟨(some 14), .extract (.tmp 10) 0, none, false⟩,
 ⟨(some 15), .extract (.tmp 10) 1, none, false⟩,
 ⟨(some 16), .extract (.tmp 10) 2, none, false⟩,
 ⟨(some 4), .move (.tmp 14), none, false⟩,
 ⟨(some 6), .move (.tmp 15), none, false⟩,
 ⟨(some 5), .move (.tmp 16), none, false⟩])
 (.seq (.block 0 (.seq (.region false [⟨(some 18), .move (.tmp 5), none, false⟩,
 ⟨(some 19), .bin .neq 118 (.tmp 18) (.const (.int .i64 0)), none, false⟩,
 ⟨(some 17), .move (.tmp 19), none, false⟩])
 (.cond (.tmp 17)
 (.seq (.region false [⟨(some 20), .move (.tmp 5), none, false⟩,
 ⟨(some 4), .move (.const (.int .i64 0)), none, false⟩,
 ⟨(some 5), .move (.tmp 20), none, false⟩])
 (.ret))
 (.seq (.region false [⟨(some 22), .move (.tmp 6), none, false⟩,
 ⟨(some 23), .move (.tmp 0), none, false⟩,
 ⟨(some 24), .bi .len [63].toArray 3 [(.tmp 23)], none, false⟩,
 ⟨(some 25), .bin .lss 3 (.tmp 22) (.tmp 24), none, false⟩,
 ⟨(some 21), .move (.tmp 25), none, false⟩])
 (.cond (.tmp 21)
 (.seq (.region false [⟨(some 4), .move (.const (.int .i64 0)), none, false⟩,
 ⟨(some 5), .move (.const (.int .i64 4)), none, false⟩])
 (.ret))
 (.skip))))))
 (.seq (.region false [⟨(some 26), .move (.tmp 4), none, false⟩,
 ⟨(some 4), .move (.tmp 26), none, false⟩,
 ⟨(some 5), .move (.const (.int .i64 0)), none, false⟩])
 (.ret)))))
theorem text94 : FnText Tryz.prog 94 [] 27 2 ac94 [(4, none), (5, none)] :=
 ⟨Tryz.call94, follows, Tryz.f94, _, Tryz.func94, rfl, rfl, by decide, by kernel_rfl, by kernel_rfl⟩

def ac102_L1 : AC :=
 .seq (.region false [⟨(some 45), .bin .lss 3 (.tmp 44) (.tmp 43), none, false⟩])
 (.seq (.cond (.tmp 45)
 (.skip)
 (.exit 1))
 (.seq (.block 2 (.seq (.region false [⟨(some 46), .move (.tmp 44), none, false⟩,
 ⟨(some 11), .move (.tmp 46), none, false⟩])
 (.seq (.region false [⟨(some 48), .move (.tmp 11), none, false⟩,
 ⟨(some 49), .load 10 true (.tmp 3), none, false⟩,
 ⟨(some 50), .move (.tmp 1), none, false⟩,
 ⟨(some 51), .move (.tmp 7), none, false⟩,
 ⟨(some 52), .call (.func 102) [(.tmp 49), (.tmp 50), (.tmp 51)], none, false⟩,
 ⟨(some 47), .move (.tmp 52), none, false⟩,
 ⟨(some 53), .extract (.tmp 47) 0, none, false⟩,
 ⟨(some 54), .extract (.tmp 47) 1, none, false⟩,
 ⟨(some 55), .extract (.tmp 47) 2, none, false⟩,
 ⟨(some 56), .iaddrA 3 1 false (.tmp 10) (.tmp 48), none, false⟩,
 ⟨none, .store 1 (.tmp 56) (.tmp 53), none, false⟩,
 ⟨(some 7), .move (.tmp 54), none, false⟩,
 ⟨(some 8), .move (.tmp 55), none, false⟩])
 (.seq (.region false [⟨(some 57), .move (.tmp 8), none, false⟩,
 ⟨(some 58), .bin .neq 118 (.tmp 57) (.const (.int .i64 0)), none, false⟩])
 (.cond (.tmp 58)
 (.seq (.region false [⟨(some 59), .move (.tmp 8), none, false⟩,
 ⟨(some 6), .move (.const (.int .i64 0)), none, false⟩,
 ⟨(some 7), .move (.const (.int .i64 0)), none, false⟩,
 ⟨(some 8), .move (.tmp 59), none, false⟩])
 (.ret))
 (.skip))))))
 (.region false [⟨(some 60), .bin .add 3 (.tmp 44) (.const (.int .i64 1)), none, false⟩,
 ⟨(some 44), .move (.tmp 60), none, false⟩])))
/-- (patchbay/expr.Scope).check -/
def ac102 : AC :=
 .seq (.region false [⟨(some 3), .box false 141 (.tmp 0), none, false⟩,
 ⟨(some 6), .move (.const (.int .i64 0)), none, false⟩,
 ⟨(some 7), .move (.const (.int .i64 0)), none, false⟩,
 ⟨(some 8), .move (.const (.int .i64 0)), none, false⟩])
 (.seq (.seq (.region false [⟨(some 12), .move (.tmp 2), none, false⟩,
 ⟨(some 13), .move (.tmp 1), none, false⟩,
 ⟨(some 14), .bi .len [63].toArray 3 [(.tmp 13)], none, false⟩,
 ⟨(some 15), .bin .geq 3 (.tmp 12) (.tmp 14), none, false⟩])
 (.cond (.tmp 15)
 (.seq (.region false [⟨(some 6), .move (.const (.int .i64 0)), none, false⟩,
 ⟨(some 7), .move (.const (.int .i64 0)), none, false⟩,
 ⟨(some 8), .move (.const (.int .i64 3)), none, false⟩])
 (.ret))
 (.skip)))
 (.seq (.region false [⟨(some 16), .move (.tmp 1), none, false⟩,
 ⟨(some 17), .move (.tmp 2), none, false⟩,
 ⟨(some 18), .iaddr 3 (.tmp 16) (.tmp 17), none, false⟩,
 ⟨(some 19), .faddr 0 1 false (.tmp 18), none, false⟩,
 ⟨(some 20), .load 1 false (.tmp 19), none, false⟩,
 ⟨(some 21), .call (.func 103) [(.tmp 20)], none, false⟩,
 ⟨(some 9), .move (.tmp 21), none, false⟩])
 (.seq (.block 0 (.seq (.region false [⟨(some 23), .move (.tmp 9), none, false⟩,
 ⟨(some 24), .bin .lss 3 (.tmp 23) (.const (.int .i64 0)), none, false⟩,
 ⟨(some 22), .move (.tmp 24), none, false⟩])
 (.cond (.tmp 22)
 (.seq (.region false [⟨(some 6), .move (.const (.int .i64 0)), none, false⟩,
 ⟨(some 7), .move (.const (.int .i64 0)), none, false⟩,
 ⟨(some 8), .move (.const (.int .i64 11)), none, false⟩])
 (.ret))
 (.seq (.region false [⟨(some 26), .move (.tmp 9), none, false⟩,
 ⟨(some 27), .bin .eql 3 (.tmp 26) (.const (.int .i64 0)), none, false⟩,
 ⟨(some 25), .move (.tmp 27), none, false⟩])
 (.cond (.tmp 25)
 (.seq (.region true [⟨(some 29), .load 10 true (.tmp 3), none, false⟩,
 ⟨(some 30), .move (.tmp 1), none, false⟩,
 ⟨(some 31), .move (.tmp 2), none, false⟩,
 ⟨(some 32), .iaddr 3 (.tmp 30) (.tmp 31), none, false⟩,
 ⟨(some 33), .load 3 true (.tmp 32), none, false⟩,
 ⟨(some 34), .call (.func 104) [(.tmp 29), (.tmp 33)], none, false⟩,
 ⟨(some 28), .move (.tmp 34), none, false⟩,
 ⟨(some 35), .extract (.tmp 28) 0, none, false⟩,
 ⟨(some 36), .extract (.tmp 28) 1, none, false⟩,
 ⟨(some 6), .move (.tmp 35), none, false⟩,
 ⟨(some 8), .move (.tmp 36), none, false⟩])
 (.seq (.region false [⟨(some 37), .move (.tmp 6), none, false⟩,
 ⟨(some 38), .move (.tmp 2), none, false⟩,
 ⟨(some 39), .bin .add 3 (.tmp 38) (.const (.int .i64 1)), none, false⟩,
 ⟨(some 40), .move (.tmp 8), none, false⟩,
 ⟨(some 6), .move (.tmp 37), none, false⟩,
 ⟨(some 7), .move (.tmp 39), none, false⟩,
 ⟨(some 8), .move (.tmp 40), none, false⟩])
 (.ret)))
 (.skip))))))
 (.seq (.region false [⟨(some 10), .alloc true 170 (.agg [(.int .i64 0), (.int .i64 0), (.int .i64 0)].toArray), none, false⟩])
 (.seq (.region false [⟨(some 41), .move (.tmp 2), none, false⟩,
 ⟨(some 42), .bin .add 3 (.tmp 41) (.const (.int .i64 1)), none, false⟩,
 ⟨(some 7), .move (.tmp 42), none, false⟩])
 (.seq (.seq (.region false [⟨(some 43), .move (.tmp 9), none, false⟩,
 ⟨(some 44), .move (.const (.int .i64 0)), none, false⟩])
 (.block 1 (.loop ac102_L1)))
 (.seq (.region true [⟨(some 62), .move (.tmp 1), none, false⟩,
 ⟨(some 63), .move (.tmp 2), none, false⟩,
 ⟨(some 64), .iaddr 3 (.tmp 62) (.tmp 63), none, false⟩,
 ⟨(some 65), .load 3 true (.tmp 64), none, false⟩,
 ⟨(some 66), .load 3 true (.tmp 10), none, false⟩,
 ⟨(some 67), .call (.func 105) [(.tmp 65), (.tmp 66)], none, false⟩,
 ⟨(some 61), .move (.tmp 67), none, false⟩,
 ⟨(some 68), .extract (.tmp 61) 0, none, false⟩,
 ⟨(some 69), .extract (.tmp 61) 1, none, false⟩,
 ⟨(some 6), .move (.tmp 68), none, false⟩,
 ⟨(some 8), .move (.tmp 69), none, false⟩])
 (.seq (.region false [⟨(some 70), .move (.tmp 6), none, false⟩,
 ⟨(some 71), .move (.tmp 7), none, false⟩,
 ⟨(some 72), .move (.tmp 8), none, false⟩,
 ⟨(some 6), .move (.tmp 70), none, false⟩,
 ⟨(some 7), .move (.tmp 71), none, false⟩,
 ⟨(some 8), .move (.tmp 72), none, false⟩])
 (.ret)))))))))
theorem text102 : FnText Tryz.prog 102 [10] 73 3 ac102 [(6, none), (7, none), (8, none)] :=
 ⟨Tryz.call102, follows, Tryz.f102, _, Tryz.func102, rfl, rfl, by decide, by kernel_rfl, by kernel_rfl⟩


/-- patchbay/expr.arity -/
def ac103 : AC :=
 .seq (.region false [⟨(some 2), .move (.const (.int .i64 0)), none, false⟩])
 (.seq (.seq (.region false [⟨(some 3), .move (.tmp 0), none, false⟩])
 (.block 0 (.seq (.seq (.region false [⟨(some 5), .bin .eql 3 (.tmp 3) (.const (.int .i64 1)), none, false⟩,
 ⟨(some 4), .move (.tmp 5), none, false⟩])
 (.cond (.tmp 4)
 (.skip)
 (.seq (.region false [⟨(some 6), .bin .eql 3 (.tmp 3) (.const (.int .i64 2)), none, false⟩,
 ⟨(some 4), .move (.tmp 6), none, false⟩])
 (.cond (.tmp 4)
 (.skip)
 (.seq (.region false [⟨(some 7), .bin .eql 3 (.tmp 3) (.const (.int .i64 3)), none, false⟩,
 ⟨(some 4), .move (.tmp 7), none, false⟩])
 (.cond (.tmp 4)
 (.skip)
 (.region false [⟨(some 8), .bin .eql 3 (.tmp 3) (.const (.int .i64 4)), none, false⟩,
 ⟨(some 4), .move (.tmp 8), none, false⟩])))))))
 (.cond (.tmp 4)
 (.seq (.region false [⟨(some 2), .move (.const (.int .i64 0)), none, false⟩])
 (.ret))
 (.seq (.seq (.region false [⟨(some 10), .bin .eql 3 (.tmp 3) (.const (.int .i64 5)), none, false⟩,
 ⟨(some 9), .move (.tmp 10), none, false⟩])
 (.cond (.tmp 9)
 (.skip)
 (.seq (.region false [⟨(some 11), .bin .eql 3 (.tmp 3) (.const (.int .i64 6)), none, false⟩,
 ⟨(some 9), .move (.tmp 11), none, false⟩])
 (.cond (.tmp 9)
 (.skip)
 (.seq (.region false [⟨(some 12), .bin .eql 3 (.tmp 3) (.const (.int .i64 7)), none, false⟩,
 ⟨(some 9), .move (.tmp 12), none, false⟩])
 (.cond (.tmp 9)
 (.skip)
 (.region false [⟨(some 13), .bin .eql 3 (.tmp 3) (.const (.int .i64 8)), none, false⟩,
 ⟨(some 9), .move (.tmp 13), none, false⟩])))))))
 (.cond (.tmp 9)
 (.seq (.region false [⟨(some 2), .move (.const (.int .i64 1)), none, false⟩])
 (.ret))
 (.seq (.seq (.region false [⟨(some 15), .bin .eql 3 (.tmp 3) (.const (.int .i64 9)), none, false⟩,
 ⟨(some 14), .move (.tmp 15), none, false⟩])
 (.cond (.tmp 14)
 (.skip)
 (.seq (.region false [⟨(some 16), .bin .eql 3 (.tmp 3) (.const (.int .i64 10)), none, false⟩,
 ⟨(some 14), .move (.tmp 16), none, false⟩])
 (.cond (.tmp 14)
 (.skip)
 (.seq (.region false [⟨(some 17), .bin .eql 3 (.tmp 3) (.const (.int .i64 11)), none, false⟩,
 ⟨(some 14), .move (.tmp 17), none, false⟩])
 (.cond (.tmp 14)
 (.skip)
 (.seq (.region false [⟨(some 18), .bin .eql 3 (.tmp 3) (.const (.int .i64 12)), none, false⟩,
 ⟨(some 14), .move (.tmp 18), none, false⟩])
 (.cond (.tmp 14)
 (.skip)
 (.seq (.region false [⟨(some 19), .bin .eql 3 (.tmp 3) (.const (.int .i64 13)), none, false⟩,
 ⟨(some 14), .move (.tmp 19), none, false⟩])
 (.cond (.tmp 14)
 (.skip)
 (.seq (.region false [⟨(some 20), .bin .eql 3 (.tmp 3) (.const (.int .i64 14)), none, false⟩,
 ⟨(some 14), .move (.tmp 20), none, false⟩])
 (.cond (.tmp 14)
 (.skip)
 (.seq (.region false [⟨(some 21), .bin .eql 3 (.tmp 3) (.const (.int .i64 15)), none, false⟩,
 ⟨(some 14), .move (.tmp 21), none, false⟩])
 (.cond (.tmp 14)
 (.skip)
 (.region false [⟨(some 22), .bin .eql 3 (.tmp 3) (.const (.int .i64 16)), none, false⟩,
 ⟨(some 14), .move (.tmp 22), none, false⟩])))))))))))))))
 (.cond (.tmp 14)
 (.seq (.region false [⟨(some 2), .move (.const (.int .i64 2)), none, false⟩])
 (.ret))
 (.seq (.region false [⟨(some 24), .bin .eql 3 (.tmp 3) (.const (.int .i64 17)), none, false⟩,
 ⟨(some 23), .move (.tmp 24), none, false⟩])
 (.cond (.tmp 23)
 (.seq (.region false [⟨(some 2), .move (.const (.int .i64 3)), none, false⟩])
 (.ret))
 (.skip)))))))))))
 (.seq (.region false [⟨(some 2), .move (.const (.int .i64 (-1))), none, false⟩])
 (.ret)))
theorem text103 : FnText Tryz.prog 103 [] 25 1 ac103 [(2, none)] :=
 ⟨Tryz.call103, follows, Tryz.f103, _, Tryz.func103, rfl, rfl, by decide, by kernel_rfl, by kernel_rfl⟩

def ac104_G2 : List AOper :=
 [⟨(some 27), .faddr 1 1 false (.tmp 3), (some (26, false)), false⟩,
 ⟨(some 28), .load 1 false (.tmp 27), (some (26, false)), false⟩,
 ⟨(some 29), .move (.tmp 6), (some (26, false)), false⟩,
 ⟨(some 30), .call (.func 40) [(.tmp 29)], (some (26, false)), false⟩,
 ⟨(some 31), .conv 96 3 (.tmp 30), (some (26, false)), false⟩,
 ⟨(some 32), .bin .gtr 3 (.tmp 28) (.tmp 31), (some (26, false)), false⟩,
 ⟨(some 33), .pick (.tmp 26) (.const (.bool true)) (.tmp 32), (some (22, true)), false⟩]
def ac104_G1 : List AOper :=
 (⟨(some 23), .faddr 1 1 false (.tmp 3), (some (22, true)), false⟩ :: ⟨(some 24), .load 1 false (.tmp 23), (some (22, true)), false⟩ :: ⟨(some 25), .bin .lss 3 (.tmp 24) (.const (.int .i64 0)), (some (22, true)), false⟩ :: ⟨(some 26), .move (.tmp 25), (some (22, true)), false⟩ :: (ac104_G2 ++ [⟨(some 34), .pick (.tmp 22) (.tmp 33) (.const (.bool false)), none, false⟩]))
def ac104_G3 : List AOper :=
 [⟨(some 61), .faddr 1 1 false (.tmp 3), (some (60, false)), false⟩,
 ⟨(some 62), .load 1 false (.tmp 61), (some (60, false)), false⟩,
 ⟨(some 63), .faddr 9 1 false (.tmp 2), (some (60, false)), false⟩,
 ⟨(some 64), .load 1 false (.tmp 63), (some (60, false)), false⟩,
 ⟨(some 65), .bi .len [23].toArray 3 [(.tmp 64)], (some (60, false)), false⟩,
 ⟨(some 66), .bin .geq 3 (.tmp 62) (.tmp 65), (some (60, false)), false⟩,
 ⟨(some 67), .pick (.tmp 60) (.const (.bool true)) (.tmp 66), none, false⟩]
def ac104_G4 : List AOper :=
 [⟨(some 82), .faddr 1 1 false (.tmp 3), (some (81, false)), false⟩,
 ⟨(some 83), .load 1 false (.tmp 82), (some (81, false)), false⟩,
 ⟨(some 84), .faddr 0 9 true (.tmp 2), (some (81, false)), false⟩,
 ⟨(some 85), .faddr 1 1 false (.tmp 84), (some (81, false)), false⟩,
 ⟨(some 86), .load 1 false (.tmp 85), (some (81, false)), false⟩,
 ⟨(some 87), .bi .len [22].toArray 3 [(.tmp 86)], (some (81, false)), false⟩,
 ⟨(some 88), .bin .geq 3 (.tmp 83) (.tmp 87), (some (81, false)), false⟩,
 ⟨(some 89), .pick (.tmp 81) (.const (.bool true)) (.tmp 88), none, false⟩]
/-- (patchbay/expr.Scope).primary -/
def ac104 : AC :=
 .seq (.region false [⟨(some 2), .box false 141 (.tmp 0), none, false⟩,
 ⟨(some 3), .box false 62 (.tmp 1), none, false⟩,
 ⟨(some 4), .move (.const (.int .i64 0)), none, false⟩,
 ⟨(some 5), .move (.const (.int .i64 0)), none, false⟩])
 (.seq (.seq (.region false [⟨(some 10), .faddr 0 1 false (.tmp 3), none, false⟩,
 ⟨(some 11), .load 1 false (.tmp 10), none, false⟩])
 (.block 0 (.seq (.region false [⟨(some 13), .bin .eql 3 (.tmp 11) (.const (.int .i64 1)), none, false⟩,
 ⟨(some 12), .move (.tmp 13), none, false⟩])
 (.cond (.tmp 12)
 (.seq (.region false [⟨(some 15), .faddr 2 1 false (.tmp 3), none, false⟩,
 ⟨(some 16), .load 1 false (.tmp 15), none, false⟩,
 ⟨(some 17), .call (.func 106) [(.tmp 16)], none, false⟩,
 ⟨(some 14), .move (.tmp 17), none, false⟩,
 ⟨(some 18), .extract (.tmp 14) 0, none, false⟩,
 ⟨(some 19), .extract (.tmp 14) 1, none, false⟩,
 ⟨(some 6), .move (.tmp 18), none, false⟩,
 ⟨(some 7), .move (.tmp 19), none, false⟩])
 (.seq (.seq (.region true (⟨(some 20), .move (.tmp 7), none, false⟩ :: ⟨(some 21), .bin .eql 118 (.tmp 20) (.const (.int .i64 0)), none, false⟩ :: ⟨(some 22), .move (.tmp 21), none, false⟩ :: (ac104_G1 ++ [])))
 (.cond (.tmp 34)
 (.seq (.region false [⟨(some 4), .move (.const (.int .i64 0)), none, false⟩,
 ⟨(some 5), .move (.const (.int .i64 9)), none, false⟩])
 (.ret))
 (.skip)))
 (.seq (.region false [⟨(some 35), .move (.tmp 6), none, false⟩,
 ⟨(some 36), .move (.tmp 7), none, false⟩,
 ⟨(some 4), .move (.tmp 35), none, false⟩,
 ⟨(some 5), .move (.tmp 36), none, false⟩])
 (.ret))))
 (.seq (.region false [⟨(some 38), .bin .eql 3 (.tmp 11) (.const (.int .i64 2)), none, false⟩,
 ⟨(some 37), .move (.tmp 38), none, false⟩])
 (.cond (.tmp 37)
 (.seq (.region false [⟨(some 40), .load 10 true (.tmp 2), none, false⟩,
 ⟨(some 41), .faddr 1 1 false (.tmp 3), none, false⟩,
 ⟨(some 42), .load 1 false (.tmp 41), none, false⟩,
 ⟨(some 43), .faddr 2 1 false (.tmp 3), none, false⟩,
 ⟨(some 44), .load 1 false (.tmp 43), none, false⟩,
 ⟨(some 45), .call (.func 107) [(.tmp 40), (.tmp 42), (.tmp 44)], none, false⟩,
 ⟨(some 39), .move (.tmp 45), none, false⟩,
 ⟨(some 46), .extract (.tmp 39) 0, none, false⟩,
 ⟨(some 47), .extract (.tmp 39) 1, none, false⟩,
 ⟨(some 8), .alloc true 73 (.agg [(.string ⟨[].toArray⟩), (.int .i64 0)].toArray), none, false⟩,
 ⟨none, .store 2 (.tmp 8) (.tmp 46), none, false⟩,
 ⟨(some 9), .move (.tmp 47), none, false⟩])
 (.seq (.seq (.region false [⟨(some 48), .move (.tmp 9), none, false⟩,
 ⟨(some 49), .un .not (.tmp 48), none, false⟩])
 (.cond (.tmp 49)
 (.seq (.region false [⟨(some 4), .move (.const (.int .i64 0)), none, false⟩,
 ⟨(some 5), .move (.const (.int .i64 8)), none, false⟩])
 (.ret))
 (.skip)))
 (.seq (.region false [⟨(some 50), .faddr 1 1 false (.tmp 8), none, false⟩,
 ⟨(some 51), .load 1 false (.tmp 50), none, false⟩,
 ⟨(some 52), .call (.func 106) [(.tmp 51)], none, false⟩,
 ⟨(some 53), .extract (.tmp 52) 0, none, false⟩,
 ⟨(some 54), .extract (.tmp 52) 1, none, false⟩,
 ⟨(some 4), .move (.tmp 53), none, false⟩,
 ⟨(some 5), .move (.tmp 54), none, false⟩])
 (.ret))))
 (.seq (.region false [⟨(some 56), .bin .eql 3 (.tmp 11) (.const (.int .i64 3)), none, false⟩,
 ⟨(some 55), .move (.tmp 56), none, false⟩])
 (.cond (.tmp 55)
 (.seq (.seq (.region false (⟨(some 57), .faddr 1 1 false (.tmp 3), none, false⟩ :: ⟨(some 58), .load 1 false (.tmp 57), none, false⟩ :: ⟨(some 59), .bin .lss 3 (.tmp 58) (.const (.int .i64 0)), none, false⟩ :: ⟨(some 60), .move (.tmp 59), none, false⟩ :: (ac104_G3 ++ [])))
 (.cond (.tmp 67)
 (.seq (.region false [⟨(some 4), .move (.const (.int .i64 0)), none, false⟩,
 ⟨(some 5), .move (.const (.int .i64 8)), none, false⟩])
 (.ret))
 (.skip)))
 (.seq (.region false [⟨(some 68), .faddr 9 1 false (.tmp 2), none, false⟩,
 ⟨(some 69), .load 1 false (.tmp 68), none, false⟩,
 ⟨(some 70), .faddr 1 1 false (.tmp 3), none, false⟩,
 ⟨(some 71), .load 1 false (.tmp 70), none, false⟩,
 ⟨(some 72), .iaddr 2 (.tmp 69) (.tmp 71), none, false⟩,
 ⟨(some 73), .faddr 1 1 false (.tmp 72), none, false⟩,
 ⟨(some 74), .load 1 false (.tmp 73), none, false⟩,
 ⟨(some 75), .call (.func 106) [(.tmp 74)], none, false⟩,
 ⟨(some 76), .extract (.tmp 75) 0, none, false⟩,
 ⟨(some 77), .extract (.tmp 75) 1, none, false⟩,
 ⟨(some 4), .move (.tmp 76), none, false⟩,
 ⟨(some 5), .move (.tmp 77), none, false⟩])
 (.ret)))
 (.skip)))))))))
 (.seq (.seq (.region false (⟨(some 78), .faddr 1 1 false (.tmp 3), none, false⟩ :: ⟨(some 79), .load 1 false (.tmp 78), none, false⟩ :: ⟨(some 80), .bin .lss 3 (.tmp 79) (.const (.int .i64 0)), none, false⟩ :: ⟨(some 81), .move (.tmp 80), none, false⟩ :: (ac104_G4 ++ [])))
 (.cond (.tmp 89)
 (.seq (.region false [⟨(some 4), .move (.const (.int .i64 0)), none, false⟩,
 ⟨(some 5), .move (.const (.int .i64 8)), none, false⟩])
 (.ret))
 (.skip)))
 (.seq (.region false [⟨(some 4), .move (.const (.int .i64 1)), none, false⟩,
 ⟨(some 5), .move (.const (.int .i64 0)), none, false⟩])
 (.ret))))
theorem text104 : FnText Tryz.prog 104 [8] 90 2 ac104 [(4, none), (5, none)] :=
 ⟨Tryz.call104, follows, Tryz.f104, _, Tryz.func104, rfl, rfl, by decide, by kernel_rfl, by kernel_rfl⟩

def ac106_G1 : List AOper :=
 [⟨(some 7), .move (.tmp 0), (some (6, false)), false⟩,
 ⟨(some 8), .bin .gtr 3 (.tmp 7) (.const (.int .i64 32)), (some (6, false)), false⟩,
 ⟨(some 9), .pick (.tmp 6) (.const (.bool true)) (.tmp 8), none, false⟩]
/-- patchbay/expr.wide -/
def ac106 : AC :=
 .seq (.region false [⟨(some 2), .move (.const (.int .i64 0)), none, false⟩,
 ⟨(some 3), .move (.const (.int .i64 0)), none, false⟩])
 (.seq (.seq (.region false (⟨(some 4), .move (.tmp 0), none, false⟩ :: ⟨(some 5), .bin .lss 3 (.tmp 4) (.const (.int .i64 1)), none, false⟩ :: ⟨(some 6), .move (.tmp 5), none, false⟩ :: (ac106_G1 ++ [])))
 (.cond (.tmp 9)
 (.seq (.region false [⟨(some 2), .move (.const (.int .i64 0)), none, false⟩,
 ⟨(some 3), .move (.const (.int .i64 10)), none, false⟩])
 (.ret))
 (.skip)))
 (.seq (.region false [⟨(some 10), .move (.tmp 0), none, false⟩,
 ⟨(some 2), .move (.tmp 10), none, false⟩,
 ⟨(some 3), .move (.const (.int .i64 0)), none, false⟩])
 (.ret)))
theorem text106 : FnText Tryz.prog 106 [] 11 1 ac106 [(2, none), (3, none)] :=
 ⟨Tryz.call106, follows, Tryz.f106, _, Tryz.func106, rfl, rfl, by decide, by kernel_rfl, by kernel_rfl⟩

def ac107_G1 : List AOper :=
 [⟨(some 17), .move (.tmp 1), (some (16, false)), false⟩,
 ⟨(some 18), .faddr 0 9 true (.tmp 3), (some (16, false)), false⟩,
 ⟨(some 19), .faddr 1 1 false (.tmp 18), (some (16, false)), false⟩,
 ⟨(some 20), .load 1 false (.tmp 19), (some (16, false)), false⟩,
 ⟨(some 21), .bi .len [22].toArray 3 [(.tmp 20)], (some (16, false)), false⟩,
 ⟨(some 22), .bin .geq 3 (.tmp 17) (.tmp 21), (some (16, false)), false⟩,
 ⟨(some 23), .pick (.tmp 16) (.const (.bool true)) (.tmp 22), none, false⟩]
def ac107_G2 : List AOper :=
 [⟨(some 35), .move (.tmp 2), (some (34, false)), false⟩,
 ⟨(some 36), .move (.tmp 8), (some (34, false)), false⟩,
 ⟨(some 37), .bi .len [23].toArray 3 [(.tmp 36)], (some (34, false)), false⟩,
 ⟨(some 38), .bin .geq 3 (.tmp 35) (.tmp 37), (some (34, false)), false⟩,
 ⟨(some 39), .pick (.tmp 34) (.const (.bool true)) (.tmp 38), none, false⟩]
/-- (patchbay/expr.Scope).field -/
def ac107 : AC :=
 .seq (.region false [⟨(some 3), .box false 141 (.tmp 0), none, false⟩,
 ⟨(some 6), .alloc true 73 (.agg [(.string ⟨[].toArray⟩), (.int .i64 0)].toArray), none, false⟩,
 ⟨(some 7), .move (.const (.bool false)), none, false⟩])
 (.seq (.region false [⟨(some 9), .faddr 0 9 true (.tmp 3), none, false⟩,
 ⟨(some 10), .faddr 2 1 false (.tmp 9), none, false⟩,
 ⟨(some 11), .load 1 false (.tmp 10), none, false⟩,
 ⟨(some 8), .move (.tmp 11), none, false⟩])
 (.seq (.seq (.region false [⟨(some 12), .move (.tmp 1), none, false⟩,
 ⟨(some 13), .bin .neq 3 (.tmp 12) (.const (.int .i64 (-1))), none, false⟩])
 (.cond (.tmp 13)
 (.seq (.seq (.region false (⟨(some 14), .move (.tmp 1), none, false⟩ :: ⟨(some 15), .bin .lss 3 (.tmp 14) (.const (.int .i64 0)), none, false⟩ :: ⟨(some 16), .move (.tmp 15), none, false⟩ :: (ac107_G1 ++ [])))
 (.cond (.tmp 23)
 (.seq (.region false [⟨(some 24), .build [(.string ⟨[].toArray⟩), (.int .i64 0)] [], none, false⟩,
 ⟨none, .store 2 (.tmp 6) (.tmp 24), none, false⟩,
 ⟨(some 7), .move (.const (.bool false)), none, false⟩])
 (.ret))
 (.skip)))
 (.region false [⟨(some 25), .faddr 0 9 true (.tmp 3), none, false⟩,
 ⟨(some 26), .faddr 1 1 false (.tmp 25), none, false⟩,
 ⟨(some 27), .load 1 false (.tmp 26), none, false⟩,
 ⟨(some 28), .move (.tmp 1), none, false⟩,
 ⟨(some 29), .iaddr 2 (.tmp 27) (.tmp 28), none, false⟩,
 ⟨(some 30), .faddr 1 1 false (.tmp 29), none, false⟩,
 ⟨(some 31), .load 1 false (.tmp 30), none, false⟩,
 ⟨(some 8), .move (.tmp 31), none, false⟩]))
 (.skip)))
 (.seq (.seq (.region false (⟨(some 32), .move (.tmp 2), none, false⟩ :: ⟨(some 33), .bin .lss 3 (.tmp 32) (.const (.int .i64 0)), none, false⟩ :: ⟨(some 34), .move (.tmp 33), none, false⟩ :: (ac107_G2 ++ [])))
 (.cond (.tmp 39)
 (.seq (.region false [⟨(some 40), .build [(.string ⟨[].toArray⟩), (.int .i64 0)] [], none, false⟩,
 ⟨none, .store 2 (.tmp 6) (.tmp 40), none, false⟩,
 ⟨(some 7), .move (.const (.bool false)), none, false⟩])
 (.ret))
 (.skip)))
 (.seq (.region false [⟨(some 41), .move (.tmp 8), none, false⟩,
 ⟨(some 42), .move (.tmp 2), none, false⟩,
 ⟨(some 43), .iaddr 2 (.tmp 41) (.tmp 42), none, false⟩,
 ⟨(some 44), .load 2 true (.tmp 43), none, false⟩,
 ⟨none, .store 2 (.tmp 6) (.tmp 44), none, false⟩,
 ⟨(some 7), .move (.const (.bool true)), none, false⟩])
 (.ret)))))
theorem text107 : FnText Tryz.prog 107 [6] 45 3 ac107 [(6, some (2, true)), (7, none)] :=
 ⟨Tryz.call107, follows, Tryz.f107, _, Tryz.func107, rfl, rfl, by decide, by kernel_rfl, by kernel_rfl⟩

def ac105_G1 : List AOper :=
 [⟨(some 17), .faddr 1 1 false (.tmp 2), (some (16, false)), false⟩,
 ⟨(some 18), .load 1 false (.tmp 17), (some (16, false)), false⟩,
 ⟨(some 19), .bin .gtr 3 (.tmp 18) (.const (.int .i64 31)), (some (16, false)), false⟩,
 ⟨(some 20), .pick (.tmp 16) (.const (.bool true)) (.tmp 19), none, false⟩]
def ac105_G2 : List AOper :=
 [⟨(some 35), .faddr 1 1 false (.tmp 2), (some (34, false)), false⟩,
 ⟨(some 36), .load 1 false (.tmp 35), (some (34, false)), false⟩,
 ⟨(some 37), .iaddrA 3 1 false (.tmp 3) (.const (.int .i64 0)), (some (34, false)), false⟩,
 ⟨(some 38), .load 1 false (.tmp 37), (some (34, false)), false⟩,
 ⟨(some 39), .faddr 2 1 false (.tmp 2), (some (34, false)), false⟩,
 ⟨(some 40), .load 1 false (.tmp 39), (some (34, false)), false⟩,
 ⟨(some 41), .bin .sub 3 (.tmp 38) (.tmp 40), (some (34, false)), false⟩,
 ⟨(some 42), .bin .gtr 3 (.tmp 36) (.tmp 41), (some (34, false)), false⟩,
 ⟨(some 43), .pick (.tmp 34) (.const (.bool true)) (.tmp 42), none, false⟩]
def ac105_G3 : List AOper :=
 [⟨(some 62), .iaddrA 3 1 false (.tmp 3) (.const (.int .i64 1)), (some (61, false)), false⟩,
 ⟨(some 63), .load 1 false (.tmp 62), (some (61, false)), false⟩,
 ⟨(some 64), .iaddrA 3 1 false (.tmp 3) (.const (.int .i64 2)), (some (61, false)), false⟩,
 ⟨(some 65), .load 1 false (.tmp 64), (some (61, false)), false⟩,
 ⟨(some 66), .bin .neq 3 (.tmp 63) (.tmp 65), (some (61, false)), false⟩,
 ⟨(some 67), .pick (.tmp 61) (.const (.bool true)) (.tmp 66), none, false⟩]
def ac105_G4 : List AOper :=
 [⟨(some 75), .iaddrA 3 1 false (.tmp 3) (.const (.int .i64 0)), (some (74, true)), false⟩,
 ⟨(some 76), .load 1 false (.tmp 75), (some (74, true)), false⟩,
 ⟨(some 77), .iaddrA 3 1 false (.tmp 3) (.const (.int .i64 1)), (some (74, true)), false⟩,
 ⟨(some 78), .load 1 false (.tmp 77), (some (74, true)), false⟩,
 ⟨(some 79), .bin .neq 3 (.tmp 76) (.tmp 78), (some (74, true)), false⟩,
 ⟨(some 80), .pick (.tmp 74) (.tmp 79) (.const (.bool false)), none, false⟩]
def ac105_G5 : List AOper :=
 [⟨(some 85), .faddr 0 1 false (.tmp 2), (some (84, false)), false⟩,
 ⟨(some 86), .load 1 false (.tmp 85), (some (84, false)), false⟩,
 ⟨(some 87), .bin .eql 3 (.tmp 86) (.const (.int .i64 16)), (some (84, false)), false⟩,
 ⟨(some 88), .pick (.tmp 84) (.const (.bool true)) (.tmp 87), none, false⟩]
/-- patchbay/expr.combine -/
def ac105 : AC :=
 .seq (.region false [⟨(some 2), .box false 62 (.tmp 0), none, false⟩,
 ⟨(some 3), .box false 170 (.tmp 1), none, false⟩,
 ⟨(some 4), .move (.const (.int .i64 0)), none, false⟩,
 ⟨(some 5), .move (.const (.int .i64 0)), none, false⟩])
 (.seq (.seq (.region false [⟨(some 8), .faddr 0 1 false (.tmp 2), none, false⟩,
 ⟨(some 9), .load 1 false (.tmp 8), none, false⟩])
 (.block 0 (.seq (.seq (.region false [⟨(some 11), .bin .eql 3 (.tmp 9) (.const (.int .i64 6)), none, false⟩,
 ⟨(some 10), .move (.tmp 11), none, false⟩])
 (.cond (.tmp 10)
 (.skip)
 (.region false [⟨(some 12), .bin .eql 3 (.tmp 9) (.const (.int .i64 7)), none, false⟩,
 ⟨(some 10), .move (.tmp 12), none, false⟩])))
 (.cond (.tmp 10)
 (.seq (.region false (⟨(some 13), .faddr 1 1 false (.tmp 2), none, false⟩ :: ⟨(some 14), .load 1 false (.tmp 13), none, false⟩ :: ⟨(some 15), .bin .lss 3 (.tmp 14) (.const (.int .i64 0)), none, false⟩ :: ⟨(some 16), .move (.tmp 15), none, false⟩ :: (ac105_G1 ++ [])))
 (.cond (.tmp 20)
 (.seq (.region false [⟨(some 4), .move (.const (.int .i64 0)), none, false⟩,
 ⟨(some 5), .move (.const (.int .i64 9)), none, false⟩])
 (.ret))
 (.skip)))
 (.seq (.region false [⟨(some 22), .bin .eql 3 (.tmp 9) (.const (.int .i64 8)), none, false⟩,
 ⟨(some 21), .move (.tmp 22), none, false⟩])
 (.cond (.tmp 21)
 (.seq (.seq (.region false [⟨(some 23), .faddr 1 1 false (.tmp 2), none, false⟩,
 ⟨(some 24), .load 1 false (.tmp 23), none, false⟩,
 ⟨(some 25), .bin .lss 3 (.tmp 24) (.const (.int .i64 0)), none, false⟩])
 (.cond (.tmp 25)
 (.seq (.region false [⟨(some 4), .move (.const (.int .i64 0)), none, false⟩,
 ⟨(some 5), .move (.const (.int .i64 9)), none, false⟩])
 (.ret))
 (.skip)))
 (.seq (.seq (.region false [⟨(some 27), .faddr 2 1 false (.tmp 2), none, false⟩,
 ⟨(some 28), .load 1 false (.tmp 27), none, false⟩,
 ⟨(some 29), .call (.func 106) [(.tmp 28)], none, false⟩,
 ⟨(some 26), .move (.tmp 29), none, false⟩,
 ⟨(some 30), .extract (.tmp 26) 0, none, false⟩,
 ⟨(some 31), .extract (.tmp 26) 1, none, false⟩,
 ⟨(some 6), .move (.tmp 30), none, false⟩,
 ⟨(some 7), .move (.tmp 31), none, false⟩])
 (.seq (.region false (⟨(some 32), .move (.tmp 7), none, false⟩ :: ⟨(some 33), .bin .neq 118 (.tmp 32) (.const (.int .i64 0)), none, false⟩ :: ⟨(some 34), .move (.tmp 33), none, false⟩ :: (ac105_G2 ++ [])))
 (.cond (.tmp 43)
 (.seq (.region false [⟨(some 4), .move (.const (.int .i64 0)), none, false⟩,
 ⟨(some 5), .move (.const (.int .i64 10)), none, false⟩])
 (.ret))
 (.skip))))
 (.seq (.region false [⟨(some 44), .faddr 2 1 false (.tmp 2), none, false⟩,
 ⟨(some 45), .load 1 false (.tmp 44), none, false⟩,
 ⟨(some 4), .move (.tmp 45), none, false⟩,
 ⟨(some 5), .move (.const (.int .i64 0)), none, false⟩])
 (.ret))))
 (.seq (.region false [⟨(some 47), .bin .eql 3 (.tmp 9) (.const (.int .i64 14)), none, false⟩,
 ⟨(some 46), .move (.tmp 47), none, false⟩])
 (.cond (.tmp 46)
 (.seq (.region false [⟨(some 48), .iaddrA 3 1 false (.tmp 3) (.const (.int .i64 0)), none, false⟩,
 ⟨(some 49), .load 1 false (.tmp 48), none, false⟩,
 ⟨(some 50), .iaddrA 3 1 false (.tmp 3) (.const (.int .i64 1)), none, false⟩,
 ⟨(some 51), .load 1 false (.tmp 50), none, false⟩,
 ⟨(some 52), .bin .add 3 (.tmp 49) (.tmp 51), none, false⟩,
 ⟨(some 53), .call (.func 106) [(.tmp 52)], none, false⟩,
 ⟨(some 54), .extract (.tmp 53) 0, none, false⟩,
 ⟨(some 55), .extract (.tmp 53) 1, none, false⟩,
 ⟨(some 4), .move (.tmp 54), none, false⟩,
 ⟨(some 5), .move (.tmp 55), none, false⟩])
 (.ret))
 (.seq (.region false [⟨(some 57), .bin .eql 3 (.tmp 9) (.const (.int .i64 17)), none, false⟩,
 ⟨(some 56), .move (.tmp 57), none, false⟩])
 (.cond (.tmp 56)
 (.seq (.seq (.region false (⟨(some 58), .iaddrA 3 1 false (.tmp 3) (.const (.int .i64 0)), none, false⟩ :: ⟨(some 59), .load 1 false (.tmp 58), none, false⟩ :: ⟨(some 60), .bin .neq 3 (.tmp 59) (.const (.int .i64 1)), none, false⟩ :: ⟨(some 61), .move (.tmp 60), none, false⟩ :: (ac105_G3 ++ [])))
 (.cond (.tmp 67)
 (.seq (.region false [⟨(some 4), .move (.const (.int .i64 0)), none, false⟩,
 ⟨(some 5), .move (.const (.int .i64 10)), none, false⟩])
 (.ret))
 (.skip)))
 (.seq (.region false [⟨(some 68), .iaddrA 3 1 false (.tmp 3) (.const (.int .i64 1)), none, false⟩,
 ⟨(some 69), .load 1 false (.tmp 68), none, false⟩,
 ⟨(some 4), .move (.tmp 69), none, false⟩,
 ⟨(some 5), .move (.const (.int .i64 0)), none, false⟩])
 (.ret)))
 (.skip)))))))))))
 (.seq (.seq (.region false (⟨(some 70), .faddr 0 1 false (.tmp 2), none, false⟩ :: ⟨(some 71), .load 1 false (.tmp 70), none, false⟩ :: ⟨(some 72), .call (.func 103) [(.tmp 71)], none, false⟩ :: ⟨(some 73), .bin .eql 3 (.tmp 72) (.const (.int .i64 2)), none, false⟩ :: ⟨(some 74), .move (.tmp 73), none, false⟩ :: (ac105_G4 ++ [])))
 (.cond (.tmp 80)
 (.seq (.region false [⟨(some 4), .move (.const (.int .i64 0)), none, false⟩,
 ⟨(some 5), .move (.const (.int .i64 10)), none, false⟩])
 (.ret))
 (.skip)))
 (.seq (.seq (.region false (⟨(some 81), .faddr 0 1 false (.tmp 2), none, false⟩ :: ⟨(some 82), .load 1 false (.tmp 81), none, false⟩ :: ⟨(some 83), .bin .eql 3 (.tmp 82) (.const (.int .i64 15)), none, false⟩ :: ⟨(some 84), .move (.tmp 83), none, false⟩ :: (ac105_G5 ++ [])))
 (.cond (.tmp 88)
 (.seq (.region false [⟨(some 4), .move (.const (.int .i64 1)), none, false⟩,
 ⟨(some 5), .move (.const (.int .i64 0)), none, false⟩])
 (.ret))
 (.skip)))
 (.seq (.region false [⟨(some 89), .iaddrA 3 1 false (.tmp 3) (.const (.int .i64 0)), none, false⟩,
 ⟨(some 90), .load 1 false (.tmp 89), none, false⟩,
 ⟨(some 4), .move (.tmp 90), none, false⟩,
 ⟨(some 5), .move (.const (.int .i64 0)), none, false⟩])
 (.ret)))))
theorem text105 : FnText Tryz.prog 105 [] 91 2 ac105 [(4, none), (5, none)] :=
 ⟨Tryz.call105, follows, Tryz.f105, _, Tryz.func105, rfl, rfl, by decide, by kernel_rfl, by kernel_rfl⟩


/-- (*patchbay/action.access).expression -/
def ac50 : AC :=
 .seq (.region true [⟨(some 4), .move (.tmp 0), none, true⟩,
 ⟨(some 5), .move (.tmp 0), none, false⟩,
 ⟨(some 6), .nilCheck (.tmp 5), none, false⟩,
 ⟨(some 7), .faddr 0 1 false (.tmp 6), none, false⟩,
 ⟨(some 8), .load 1 false (.tmp 7), none, false⟩,
 ⟨(some 9), .move (.tmp 1), none, false⟩,
 ⟨(some 10), .call (.func 31) [(.tmp 9)], none, false⟩,
 ⟨(some 11), .append 84 33 2 16 (.tmp 8) (.tmp 10), none, false⟩,
 ⟨(some 12), .nilCheck (.tmp 4), none, false⟩,
 ⟨(some 13), .faddr 0 1 false (.tmp 12), none, false⟩,
 ⟨none, .store 1 (.tmp 13) (.tmp 11), none, false⟩])
 (.region true [⟨(some 14), .move (.tmp 0), none, true⟩,
 ⟨(some 15), .move (.tmp 0), none, false⟩,
 ⟨(some 16), .nilCheck (.tmp 15), none, false⟩,
 ⟨(some 17), .faddr 1 1 false (.tmp 16), none, false⟩,
 ⟨(some 18), .load 1 false (.tmp 17), none, false⟩,
 ⟨(some 19), .move (.tmp 1), none, false⟩,
 ⟨(some 20), .call (.func 32) [(.tmp 19)], none, false⟩,
 ⟨(some 21), .append 29 3 1 8 (.tmp 18) (.tmp 20), none, false⟩,
 ⟨(some 22), .nilCheck (.tmp 14), none, false⟩,
 ⟨(some 23), .faddr 1 1 false (.tmp 22), none, false⟩,
 ⟨none, .store 1 (.tmp 23) (.tmp 21), none, false⟩])
theorem text50 : FnText Tryz.prog 50 [] 24 2 ac50 [] :=
 ⟨Tryz.call50, follows, Tryz.f50, _, Tryz.func50, rfl, rfl, by decide, by kernel_rfl, by kernel_rfl⟩


/-- (*patchbay/action.access).sorted -/
def ac51 : AC :=
 .seq (.region false [⟨(some 2), .move (.const (.slice none 0 0)), none, false⟩,
 ⟨(some 3), .move (.const (.slice none 0 0)), none, false⟩,
 ⟨(some 4), .move (.const (.slice none 0 0)), none, false⟩])
 (.seq (.region false [⟨(some 5), .move (.tmp 0), none, false⟩,
 ⟨(some 6), .nilCheck (.tmp 5), none, false⟩,
 ⟨(some 7), .faddr 0 1 false (.tmp 6), none, false⟩,
 ⟨(some 8), .load 1 false (.tmp 7), none, false⟩,
 ⟨(some 9), .call (.func 42) [(.tmp 8), (.func 59)], none, false⟩])
 (.seq (.region false [⟨(some 10), .move (.tmp 0), none, false⟩,
 ⟨(some 11), .nilCheck (.tmp 10), none, false⟩,
 ⟨(some 12), .faddr 1 1 false (.tmp 11), none, false⟩,
 ⟨(some 13), .load 1 false (.tmp 12), none, false⟩,
 ⟨(some 14), .call (.func 47) [(.tmp 13)], none, false⟩])
 (.seq (.region false [⟨(some 15), .move (.tmp 0), none, false⟩,
 ⟨(some 16), .nilCheck (.tmp 15), none, false⟩,
 ⟨(some 17), .faddr 2 1 false (.tmp 16), none, false⟩,
 ⟨(some 18), .load 1 false (.tmp 17), none, false⟩,
 ⟨(some 19), .call (.func 47) [(.tmp 18)], none, false⟩])
 (.seq (.region true [⟨(some 20), .move (.tmp 0), none, false⟩,
 ⟨(some 21), .nilCheck (.tmp 20), none, false⟩,
 ⟨(some 22), .faddr 0 1 false (.tmp 21), none, false⟩,
 ⟨(some 23), .load 1 false (.tmp 22), none, false⟩,
 ⟨(some 24), .call (.func 46) [(.tmp 23)], none, false⟩,
 ⟨(some 25), .move (.tmp 0), none, false⟩,
 ⟨(some 26), .nilCheck (.tmp 25), none, false⟩,
 ⟨(some 27), .faddr 1 1 false (.tmp 26), none, false⟩,
 ⟨(some 28), .load 1 false (.tmp 27), none, false⟩,
 ⟨(some 29), .call (.func 48) [(.tmp 28)], none, false⟩,
 ⟨(some 30), .move (.tmp 0), none, false⟩,
 ⟨(some 31), .nilCheck (.tmp 30), none, false⟩,
 ⟨(some 32), .faddr 2 1 false (.tmp 31), none, false⟩,
 ⟨(some 33), .load 1 false (.tmp 32), none, false⟩,
 ⟨(some 34), .call (.func 48) [(.tmp 33)], none, false⟩,
 ⟨(some 2), .move (.tmp 24), none, false⟩,
 ⟨(some 3), .move (.tmp 29), none, false⟩,
 ⟨(some 4), .move (.tmp 34), none, false⟩])
 (.ret)))))
theorem text51 : FnText Tryz.prog 51 [] 35 1 ac51 [(2, none), (3, none), (4, none)] :=
 ⟨Tryz.call51, follows, Tryz.f51, _, Tryz.func51, rfl, rfl, by decide, by kernel_rfl, by kernel_rfl⟩


/-- (*patchbay/action.access).sorted$1 -/
def ac59 : AC :=
 .seq (.region false [⟨(some 2), .box false 33 (.tmp 0), none, false⟩,
 ⟨(some 3), .box false 33 (.tmp 1), none, false⟩,
 ⟨(some 4), .move (.const (.int .i64 0)), none, false⟩])
 (.seq (.region true [⟨(some 5), .faddr 0 1 false (.tmp 2), none, false⟩,
 ⟨(some 6), .load 1 false (.tmp 5), none, false⟩,
 ⟨(some 7), .faddr 0 1 false (.tmp 3), none, false⟩,
 ⟨(some 8), .load 1 false (.tmp 7), none, false⟩,
 ⟨(some 9), .call (.func 45) [(.tmp 6), (.tmp 8)], none, false⟩,
 ⟨(some 10), .faddr 1 1 false (.tmp 2), none, false⟩,
 ⟨(some 11), .load 1 false (.tmp 10), none, false⟩,
 ⟨(some 12), .faddr 1 1 false (.tmp 3), none, false⟩,
 ⟨(some 13), .load 1 false (.tmp 12), none, false⟩,
 ⟨(some 14), .call (.func 45) [(.tmp 11), (.tmp 13)], none, false⟩,
 ⟨(some 15), .bslice false 3 1 false [(.tmp 9), (.tmp 14)], none, false⟩,
 ⟨(some 16), .call (.func 44) [(.tmp 15)], none, false⟩,
 ⟨(some 4), .move (.tmp 16), none, false⟩])
 (.ret))
theorem text59 : FnText Tryz.prog 59 [] 17 2 ac59 [(4, none)] :=
 ⟨Tryz.call59, follows, Tryz.f59, _, Tryz.func59, rfl, rfl, by decide, by kernel_rfl, by kernel_rfl⟩

def ac21_L1 : AC :=
 .seq (.seq (.region false [⟨(some 11), .move (.tmp 5), none, false⟩,
 ⟨(some 12), .move (.tmp 0), none, false⟩,
 ⟨(some 13), .bi .len [29].toArray 3 [(.tmp 12)], none, false⟩,
 ⟨(some 14), .bin .lss 3 (.tmp 11) (.tmp 13), none, false⟩])
 (.cond (.tmp 14)
 (.skip)
 (.exit 0)))
 (.seq (.block 1 (.seq (.region true [⟨(some 17), .move (.tmp 0), none, false⟩,
 ⟨(some 18), .move (.tmp 5), none, false⟩,
 ⟨(some 19), .iaddr 1 (.tmp 17) (.tmp 18), none, false⟩,
 ⟨(some 20), .load 1 false (.tmp 19), none, false⟩,
 ⟨(some 21), .move (.tmp 1), none, false⟩,
 ⟨(some 22), .move (.tmp 5), none, false⟩,
 ⟨(some 23), .iaddr 1 (.tmp 21) (.tmp 22), none, false⟩,
 ⟨(some 24), .load 1 false (.tmp 23), none, false⟩,
 ⟨(some 25), .bin .neq 3 (.tmp 20) (.tmp 24), none, false⟩])
 (.cond (.tmp 25)
 (.seq (.region false [⟨(some 4), .move (.const (.bool false)), none, false⟩])
 (.ret))
 (.skip))))
 (.region false [⟨(some 15), .move (.tmp 5), none, false⟩,
 ⟨(some 16), .bin .add 3 (.tmp 15) (.const (.int .i64 1)), none, false⟩,
 ⟨(some 5), .move (.tmp 16), none, false⟩]))
/-- patchbay/patchbaylaw31.equal -/
def ac21 : AC :=
 .seq (.region false [⟨(some 4), .move (.const (.bool false)), none, false⟩])
 (.seq (.seq (.region false [⟨(some 6), .move (.tmp 0), none, false⟩,
 ⟨(some 7), .bi .len [29].toArray 3 [(.tmp 6)], none, false⟩,
 ⟨(some 8), .move (.tmp 1), none, false⟩,
 ⟨(some 9), .bi .len [29].toArray 3 [(.tmp 8)], none, false⟩,
 ⟨(some 10), .bin .neq 3 (.tmp 7) (.tmp 9), none, false⟩])
 (.cond (.tmp 10)
 (.seq (.region false [⟨(some 4), .move (.const (.bool false)), none, false⟩])
 (.ret))
 (.skip)))
 (.seq (.seq (.region false [⟨(some 5), .move (.const (.int .i64 0)), none, false⟩])
 (.block 0 (.loop ac21_L1)))
 (.seq (.region false [⟨(some 4), .move (.const (.bool true)), none, false⟩])
 (.ret))))
theorem text21 : FnText Tryz.prog 21 [] 26 2 ac21 [(4, none)] :=
 ⟨Tryz.call21, follows, Tryz.f21, _, Tryz.func21, rfl, rfl, by decide, by kernel_rfl, by kernel_rfl⟩

def ac23_L1 : AC :=
 .seq (.region false [⟨(some 25), .bin .lss 3 (.tmp 24) (.tmp 23), none, false⟩])
 (.seq (.cond (.tmp 25)
 (.skip)
 (.exit 0))
 (.seq (.block 1 (.seq (.region false [⟨(some 26), .iaddr 1 (.tmp 22) (.tmp 24), none, false⟩,
 ⟨(some 27), .load 1 false (.tmp 26), none, false⟩,
 ⟨(some 9), .move (.tmp 27), none, false⟩])
 (.region false [⟨(some 28), .move (.tmp 7), none, false⟩,
 ⟨(some 29), .load 9 true (.tmp 2), none, false⟩,
 ⟨(some 30), .move (.tmp 9), none, false⟩,
 ⟨(some 31), .call (.func 36) [(.tmp 29), (.tmp 30)], none, false⟩,
 ⟨(some 32), .extract (.tmp 31) 0, none, false⟩,
 ⟨(some 33), .extract (.tmp 31) 1, none, false⟩,
 ⟨(some 34), .extract (.tmp 31) 2, none, false⟩,
 ⟨(some 35), .call (.func 30) [(.tmp 28), (.tmp 32), (.tmp 33), (.tmp 34)], none, false⟩])))
 (.region false [⟨(some 36), .bin .add 3 (.tmp 24) (.const (.int .i64 1)), none, false⟩,
 ⟨(some 24), .move (.tmp 36), none, false⟩])))
/-- patchbay/access.Writes -/
def ac23 : AC :=
 .seq (.region false [⟨(some 2), .box false 31 (.tmp 0), none, false⟩,
 ⟨(some 3), .box false 66 (.tmp 1), none, false⟩,
 ⟨(some 4), .move (.const (.slice none 0 0)), none, false⟩])
 (.seq (.region false [⟨(some 11), .load 9 true (.tmp 2), none, false⟩,
 ⟨(some 12), .load 3 true (.tmp 3), none, false⟩,
 ⟨(some 13), .call (.func 34) [(.tmp 11), (.tmp 12)], none, false⟩,
 ⟨(some 10), .move (.tmp 13), none, false⟩,
 ⟨(some 14), .extract (.tmp 10) 0, none, false⟩,
 ⟨(some 15), .extract (.tmp 10) 1, none, false⟩,
 ⟨(some 5), .alloc true 55 (.agg [(.string ⟨[].toArray⟩), (.slice none 0 0), (.slice none 0 0), (.int .i64 0), (.slice none 0 0), (.int .i64 0)].toArray), none, false⟩,
 ⟨none, .store 6 (.tmp 5) (.tmp 14), none, false⟩,
 ⟨(some 6), .move (.tmp 15), none, false⟩])
 (.seq (.seq (.region false [⟨(some 16), .move (.tmp 6), none, false⟩,
 ⟨(some 17), .un .not (.tmp 16), none, false⟩])
 (.cond (.tmp 17)
 (.seq (.region false [⟨(some 4), .move (.const (.slice none 0 0)), none, false⟩])
 (.ret))
 (.skip)))
 (.seq (.region false [⟨(some 18), .load 9 true (.tmp 2), none, false⟩,
 ⟨(some 19), .build [(.string ⟨[].toArray⟩), (.slice none 0 0), (.slice none 0 0), (.slice none 0 0), (.slice none 0 0), (.slice none 0 0), (.slice none 0 0), (.slice none 0 0), (.slice none 0 0), (.slice none 0 0)] [(0, 9, (.tmp 18))], none, false⟩,
 ⟨(some 20), .box true 82 (.tmp 19), none, false⟩,
 ⟨(some 7), .move (.tmp 20), none, false⟩])
 (.seq (.seq (.region false [⟨(some 21), .faddr 2 1 false (.tmp 5), none, false⟩,
 ⟨(some 22), .load 1 false (.tmp 21), none, false⟩,
 ⟨(some 23), .bi .len [29].toArray 3 [(.tmp 22)], none, false⟩,
 ⟨(some 24), .move (.const (.int .i64 0)), none, false⟩])
 (.block 0 (.loop ac23_L1)))
 (.seq (.region false [⟨(some 37), .move (.tmp 7), none, false⟩,
 ⟨(some 38), .call (.func 33) [(.tmp 37)], none, false⟩,
 ⟨(some 4), .move (.tmp 38), none, false⟩])
 (.ret))))))
theorem text23 : FnText Tryz.prog 23 [5, 20] 39 2 ac23 [(4, none)] :=
 ⟨Tryz.call23, follows, Tryz.f23, _, Tryz.func23, rfl, rfl, by decide, by kernel_rfl, by kernel_rfl⟩

def ac36_L2 : AC :=
 .seq (.region false [⟨(some 50), .bin .lss 3 (.tmp 49) (.tmp 48), none, false⟩])
 (.seq (.cond (.tmp 50)
 (.skip)
 (.exit 3))
 (.seq (.block 4 (.seq (.region false [⟨(some 51), .move (.tmp 49), none, false⟩,
 ⟨(some 10), .move (.tmp 51), none, false⟩])
 (.region false [⟨(some 52), .faddr 0 1 false (.tmp 7), none, false⟩,
 ⟨(some 53), .load 1 false (.tmp 52), none, false⟩,
 ⟨(some 54), .faddr 4 1 false (.tmp 9), none, false⟩,
 ⟨(some 55), .load 1 false (.tmp 54), none, false⟩,
 ⟨(some 56), .move (.tmp 10), none, false⟩,
 ⟨(some 57), .build [(.int .i64 0), (.int .i64 0)] [(0, 1, (.tmp 55)), (1, 1, (.tmp 56))], none, false⟩,
 ⟨(some 58), .bslice false 33 2 false [(.tmp 57)], none, false⟩,
 ⟨(some 59), .append 84 33 2 16 (.tmp 53) (.tmp 58), none, false⟩,
 ⟨(some 60), .faddr 0 1 false (.tmp 7), none, false⟩,
 ⟨none, .store 1 (.tmp 60) (.tmp 59), none, false⟩])))
 (.region false [⟨(some 61), .bin .add 3 (.tmp 49) (.const (.int .i64 1)), none, false⟩,
 ⟨(some 49), .move (.tmp 61), none, false⟩])))
def ac36_L1 : AC :=
 .seq (.region false [⟨(some 16), .bin .lss 3 (.tmp 15) (.tmp 14), none, false⟩])
 (.seq (.cond (.tmp 16)
 (.skip)
 (.exit 0))
 (.seq (.block 1 (.seq (.region false [⟨(some 17), .iaddr 7 (.tmp 13) (.tmp 15), none, false⟩,
 ⟨(some 18), .load 7 true (.tmp 17), none, false⟩,
 ⟨(some 9), .alloc true 75 (.agg [(.int .i64 0), (.int .i64 0), (.int .i64 0), (.int .i64 0), (.int .i64 0), (.slice none 0 0), (.slice none 0 0)].toArray), none, false⟩,
 ⟨none, .store 7 (.tmp 9) (.tmp 18), none, false⟩])
 (.seq (.region false [⟨(some 19), .faddr 0 1 false (.tmp 9), none, false⟩,
 ⟨(some 20), .load 1 false (.tmp 19), none, false⟩])
 (.block 2 (.seq (.seq (.region false [⟨(some 22), .bin .eql 3 (.tmp 20) (.const (.int .i64 1)), none, false⟩,
 ⟨(some 21), .move (.tmp 22), none, false⟩])
 (.cond (.tmp 21)
 (.skip)
 (.region false [⟨(some 23), .bin .eql 3 (.tmp 20) (.const (.int .i64 4)), none, false⟩,
 ⟨(some 21), .move (.tmp 23), none, false⟩])))
 (.cond (.tmp 21)
 (.region false [⟨(some 24), .faddr 0 1 false (.tmp 7), none, false⟩,
 ⟨(some 25), .load 1 false (.tmp 24), none, false⟩,
 ⟨(some 26), .faddr 1 2 true (.tmp 9), none, false⟩,
 ⟨(some 27), .load 2 true (.tmp 26), none, false⟩,
 ⟨(some 28), .bslice false 33 2 false [(.tmp 27)], none, false⟩,
 ⟨(some 29), .append 84 33 2 16 (.tmp 25) (.tmp 28), none, false⟩,
 ⟨(some 30), .faddr 0 1 false (.tmp 7), none, false⟩,
 ⟨none, .store 1 (.tmp 30) (.tmp 29), none, false⟩])
 (.seq (.seq (.region false [⟨(some 32), .bin .eql 3 (.tmp 20) (.const (.int .i64 2)), none, false⟩,
 ⟨(some 31), .move (.tmp 32), none, false⟩])
 (.cond (.tmp 31)
 (.skip)
 (.region false [⟨(some 33), .bin .eql 3 (.tmp 20) (.const (.int .i64 3)), none, false⟩,
 ⟨(some 31), .move (.tmp 33), none, false⟩])))
 (.cond (.tmp 31)
 (.seq (.region false [⟨(some 34), .faddr 1 1 false (.tmp 7), none, false⟩,
 ⟨(some 35), .load 1 false (.tmp 34), none, false⟩,
 ⟨(some 36), .faddr 4 1 false (.tmp 9), none, false⟩,
 ⟨(some 37), .load 1 false (.tmp 36), none, false⟩,
 ⟨(some 38), .bslice false 3 1 false [(.tmp 37)], none, false⟩,
 ⟨(some 39), .append 29 3 1 8 (.tmp 35) (.tmp 38), none, false⟩,
 ⟨(some 40), .faddr 1 1 false (.tmp 7), none, false⟩,
 ⟨none, .store 1 (.tmp 40) (.tmp 39), none, false⟩])
 (.seq (.region false [⟨(some 41), .faddr 1 1 false (.tmp 2), none, false⟩,
 ⟨(some 42), .load 1 false (.tmp 41), none, false⟩,
 ⟨(some 43), .faddr 4 1 false (.tmp 9), none, false⟩,
 ⟨(some 44), .load 1 false (.tmp 43), none, false⟩,
 ⟨(some 45), .iaddr 2 (.tmp 42) (.tmp 44), none, false⟩,
 ⟨(some 46), .faddr 1 1 false (.tmp 45), none, false⟩,
 ⟨(some 47), .load 1 false (.tmp 46), none, false⟩,
 ⟨(some 48), .bi .len [23].toArray 3 [(.tmp 47)], none, false⟩,
 ⟨(some 49), .move (.const (.int .i64 0)), none, false⟩])
 (.block 3 (.loop ac36_L2))))
 (.seq (.region false [⟨(some 63), .bin .eql 3 (.tmp 20) (.const (.int .i64 5)), none, false⟩,
 ⟨(some 62), .move (.tmp 63), none, false⟩])
 (.cond (.tmp 62)
 (.region false [⟨(some 64), .faddr 2 1 false (.tmp 7), none, false⟩,
 ⟨(some 65), .load 1 false (.tmp 64), none, false⟩,
 ⟨(some 66), .faddr 3 1 false (.tmp 9), none, false⟩,
 ⟨(some 67), .load 1 false (.tmp 66), none, false⟩,
 ⟨(some 68), .bslice false 3 1 false [(.tmp 67)], none, false⟩,
 ⟨(some 69), .append 29 3 1 8 (.tmp 65) (.tmp 68), none, false⟩,
 ⟨(some 70), .faddr 2 1 false (.tmp 7), none, false⟩,
 ⟨none, .store 1 (.tmp 70) (.tmp 69), none, false⟩])
 (.skip)))))))))))
 (.region false [⟨(some 71), .bin .add 3 (.tmp 15) (.const (.int .i64 1)), none, false⟩,
 ⟨(some 15), .move (.tmp 71), none, false⟩])))
/-- patchbay/action.Writes -/
def ac36 : AC :=
 .seq (.region false [⟨(some 2), .box false 31 (.tmp 0), none, false⟩,
 ⟨(some 4), .move (.const (.slice none 0 0)), none, false⟩,
 ⟨(some 5), .move (.const (.slice none 0 0)), none, false⟩,
 ⟨(some 6), .move (.const (.slice none 0 0)), none, false⟩])
 (.seq (.region false [⟨(some 7), .alloc true 107 (.agg [(.slice none 0 0), (.slice none 0 0), (.slice none 0 0)].toArray), none, false⟩])
 (.seq (.seq (.region false [⟨(some 11), .load 9 true (.tmp 2), none, false⟩,
 ⟨(some 12), .move (.tmp 1), none, false⟩,
 ⟨(some 13), .call (.func 49) [(.tmp 11), (.tmp 12)], none, false⟩,
 ⟨(some 14), .bi .len [47].toArray 3 [(.tmp 13)], none, false⟩,
 ⟨(some 15), .move (.const (.int .i64 0)), none, false⟩])
 (.block 0 (.loop ac36_L1)))
 (.seq (.region false [⟨(some 72), .call (.func 51) [(.tmp 7)], none, false⟩,
 ⟨(some 73), .extract (.tmp 72) 0, none, false⟩,
 ⟨(some 74), .extract (.tmp 72) 1, none, false⟩,
 ⟨(some 75), .extract (.tmp 72) 2, none, false⟩,
 ⟨(some 4), .move (.tmp 73), none, false⟩,
 ⟨(some 5), .move (.tmp 74), none, false⟩,
 ⟨(some 6), .move (.tmp 75), none, false⟩])
 (.ret))))
theorem text36 : FnText Tryz.prog 36 [7, 9] 76 2 ac36 [(4, none), (5, none), (6, none)] :=
 ⟨Tryz.call36, follows, Tryz.f36, _, Tryz.func36, rfl, rfl, by decide, by kernel_rfl, by kernel_rfl⟩

end Go.Proofs.YtepkgeppmjmkjaaGreat
