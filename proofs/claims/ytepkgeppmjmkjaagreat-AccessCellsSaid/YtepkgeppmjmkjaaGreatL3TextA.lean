/-
 The text of each function of this seat, as the plain library tells it; each by the kernel's own reckoning from the program.
-/
import Derived.Test.YtepkgeppmjmkjaaGreatPbWp
import Derived.Test.YtepkgeppmjmkjaaGreatRows
set_option linter.unusedVariables false
set_option maxRecDepth 100000
namespace Go.Proofs.YtepkgeppmjmkjaaGreat
open Go Go.Pb
theorem follows : Tryz.prog.follows .mixedOrders = true := by kernel_rfl
def ac16_G1 : List AOper :=
 [⟨(some 14), .move (.tmp 5), (some (13, true)), false⟩,
 ⟨(some 15), .bin .lss 3 (.tmp 14) (.const (.int .i64 100)), (some (13, true)), false⟩,
 ⟨(some 16), .pick (.tmp 13) (.tmp 15) (.const (.bool false)), none, false⟩]
def ac16_G2 : List AOper :=
 [⟨(some 22), .move (.tmp 0), (some (21, false)), false⟩,
 ⟨(some 23), .move (.tmp 6), (some (21, false)), false⟩,
 ⟨(some 24), .iaddr 5 (.tmp 22) (.tmp 23), (some (21, false)), false⟩,
 ⟨(some 25), .faddr 2 1 false (.tmp 24), (some (21, false)), false⟩,
 ⟨(some 26), .load 1 false (.tmp 25), (some (21, false)), false⟩,
 ⟨(some 27), .bi .len [63].toArray 3 [(.tmp 26)], (some (21, false)), false⟩,
 ⟨(some 28), .bin .gtr 3 (.tmp 27) (.const (.int .i64 40)), (some (21, false)), false⟩,
 ⟨(some 29), .pick (.tmp 21) (.const (.bool true)) (.tmp 28), none, false⟩]
def ac16_L1 : AC :=
 .seq (.seq (.region false (⟨(some 9), .move (.tmp 6), none, false⟩ :: ⟨(some 10), .move (.tmp 0), none, false⟩ :: ⟨(some 11), .bi .len [28].toArray 3 [(.tmp 10)], none, false⟩ :: ⟨(some 12), .bin .lss 3 (.tmp 9) (.tmp 11), none, false⟩ :: ⟨(some 13), .move (.tmp 12), none, false⟩ :: (ac16_G1 ++ [])))
 (.cond (.tmp 16)
 (.skip)
 (.exit 0)))
 (.seq (.block 1 (.seq (.seq (.region false (⟨(some 19), .move (.tmp 1), none, false⟩ :: ⟨(some 20), .bin .eql 3 (.tmp 19) (.const (.int .i64 0)), none, false⟩ :: ⟨(some 21), .move (.tmp 20), none, false⟩ :: (ac16_G2 ++ [])))
 (.cond (.tmp 29)
 (.seq (.region false [⟨(some 4), .move (.const (.int .i64 100)), none, false⟩])
 (.ret))
 (.skip)))
 (.region true [⟨(some 30), .move (.tmp 5), none, false⟩,
 ⟨(some 31), .move (.tmp 0), none, false⟩,
 ⟨(some 32), .move (.tmp 6), none, false⟩,
 ⟨(some 33), .iaddr 5 (.tmp 31) (.tmp 32), none, false⟩,
 ⟨(some 34), .faddr 3 1 false (.tmp 33), none, false⟩,
 ⟨(some 35), .load 1 false (.tmp 34), none, false⟩,
 ⟨(some 36), .move (.tmp 1), none, false⟩,
 ⟨(some 37), .bin .sub 3 (.tmp 36) (.const (.int .i64 1)), none, false⟩,
 ⟨(some 38), .call (.func 16) [(.tmp 35), (.tmp 37)], none, false⟩,
 ⟨(some 39), .bin .add 3 (.tmp 30) (.tmp 38), none, false⟩,
 ⟨(some 40), .move (.tmp 0), none, false⟩,
 ⟨(some 41), .move (.tmp 6), none, false⟩,
 ⟨(some 42), .iaddr 5 (.tmp 40) (.tmp 41), none, false⟩,
 ⟨(some 43), .faddr 4 1 false (.tmp 42), none, false⟩,
 ⟨(some 44), .load 1 false (.tmp 43), none, false⟩,
 ⟨(some 45), .move (.tmp 1), none, false⟩,
 ⟨(some 46), .bin .sub 3 (.tmp 45) (.const (.int .i64 1)), none, false⟩,
 ⟨(some 47), .call (.func 16) [(.tmp 44), (.tmp 46)], none, false⟩,
 ⟨(some 48), .bin .add 3 (.tmp 39) (.tmp 47), none, false⟩,
 ⟨(some 5), .move (.tmp 48), none, false⟩])))
 (.region false [⟨(some 17), .move (.tmp 6), none, false⟩,
 ⟨(some 18), .bin .add 3 (.tmp 17) (.const (.int .i64 1)), none, false⟩,
 ⟨(some 6), .move (.tmp 18), none, false⟩]))
/-- patchbay/patchbaylaw21.nodes -/
def ac16 : AC :=
 .seq (.region false [⟨(some 4), .move (.const (.int .i64 0)), none, false⟩])
 (.seq (.region false [⟨(some 7), .move (.tmp 0), none, false⟩,
 ⟨(some 8), .bi .len [28].toArray 3 [(.tmp 7)], none, false⟩,
 ⟨(some 5), .move (.tmp 8), none, false⟩])
 (.seq (.seq (.region false [⟨(some 6), .move (.const (.int .i64 0)), none, false⟩])
 (.block 0 (.loop ac16_L1)))
 (.seq (.region false [⟨(some 49), .move (.tmp 5), none, false⟩,
 ⟨(some 4), .move (.tmp 49), none, false⟩])
 (.ret))))
theorem text16 : FnText Tryz.prog 16 [] 50 2 ac16 [(4, none)] :=
 ⟨Tryz.call16, follows, Tryz.f16, _, Tryz.func16, rfl, rfl, by decide, by kernel_rfl, by kernel_rfl⟩

def ac17_G1 : List AOper :=
 [⟨(some 9), .faddr 1 1 false (.tmp 1), (some (8, false)), false⟩,
 ⟨(some 10), .load 1 false (.tmp 9), (some (8, false)), false⟩,
 ⟨(some 11), .bi .len [23].toArray 3 [(.tmp 10)], (some (8, false)), false⟩,
 ⟨(some 12), .bin .gtr 3 (.tmp 11) (.const (.int .i64 20)), (some (8, false)), false⟩,
 ⟨(some 13), .pick (.tmp 8) (.const (.bool true)) (.tmp 12), none, false⟩]
def ac17_L1 : AC :=
 .seq (.seq (.region false [⟨(some 14), .move (.tmp 3), none, false⟩,
 ⟨(some 15), .faddr 1 1 false (.tmp 1), none, false⟩,
 ⟨(some 16), .load 1 false (.tmp 15), none, false⟩,
 ⟨(some 17), .bi .len [23].toArray 3 [(.tmp 16)], none, false⟩,
 ⟨(some 18), .bin .lss 3 (.tmp 14) (.tmp 17), none, false⟩])
 (.cond (.tmp 18)
 (.skip)
 (.exit 0)))
 (.seq (.block 1 (.seq (.region false [⟨(some 21), .faddr 1 1 false (.tmp 1), none, false⟩,
 ⟨(some 22), .load 1 false (.tmp 21), none, false⟩,
 ⟨(some 23), .move (.tmp 3), none, false⟩,
 ⟨(some 24), .iaddr 2 (.tmp 22) (.tmp 23), none, false⟩,
 ⟨(some 25), .faddr 0 1 false (.tmp 24), none, false⟩,
 ⟨(some 26), .load 1 false (.tmp 25), none, false⟩,
 ⟨(some 27), .bi .len [9].toArray 3 [(.tmp 26)], none, false⟩,
 ⟨(some 28), .bin .gtr 3 (.tmp 27) (.const (.int .i64 30)), none, false⟩])
 (.cond (.tmp 28)
 (.seq (.region false [⟨(some 2), .move (.const (.bool false)), none, false⟩])
 (.ret))
 (.skip))))
 (.region false [⟨(some 19), .move (.tmp 3), none, false⟩,
 ⟨(some 20), .bin .add 3 (.tmp 19) (.const (.int .i64 1)), none, false⟩,
 ⟨(some 3), .move (.tmp 20), none, false⟩]))
/-- patchbay/patchbayref11.Small -/
def ac17 : AC :=
 .seq (.region false [⟨(some 1), .box false 45 (.tmp 0), none, false⟩,
 ⟨(some 2), .move (.const (.bool false)), none, false⟩])
 (.seq (.seq (.region false (⟨(some 4), .faddr 0 1 false (.tmp 1), none, false⟩ :: ⟨(some 5), .load 1 false (.tmp 4), none, false⟩ :: ⟨(some 6), .bi .len [9].toArray 3 [(.tmp 5)], none, false⟩ :: ⟨(some 7), .bin .gtr 3 (.tmp 6) (.const (.int .i64 30)), none, false⟩ :: ⟨(some 8), .move (.tmp 7), none, false⟩ :: (ac17_G1 ++ [])))
 (.cond (.tmp 13)
 (.seq (.region false [⟨(some 2), .move (.const (.bool false)), none, false⟩])
 (.ret))
 (.skip)))
 (.seq (.seq (.region false [⟨(some 3), .move (.const (.int .i64 0)), none, false⟩])
 (.block 0 (.loop ac17_L1)))
 (.seq (.region false [⟨(some 2), .move (.const (.bool true)), none, false⟩])
 (.ret))))
theorem text17 : FnText Tryz.prog 17 [] 29 1 ac17 [(2, none)] :=
 ⟨Tryz.call17, follows, Tryz.f17, _, Tryz.func17, rfl, rfl, by decide, by kernel_rfl, by kernel_rfl⟩

def ac18_G1 : List AOper :=
 [⟨(some 9), .faddr 2 1 false (.tmp 1), (some (8, false)), false⟩,
 ⟨(some 10), .load 1 false (.tmp 9), (some (8, false)), false⟩,
 ⟨(some 11), .bi .len [47].toArray 3 [(.tmp 10)], (some (8, false)), false⟩,
 ⟨(some 12), .bin .gtr 3 (.tmp 11) (.const (.int .i64 16)), (some (8, false)), false⟩,
 ⟨(some 13), .pick (.tmp 8) (.const (.bool true)) (.tmp 12), none, false⟩]
def ac18_G2 : List AOper :=
 [⟨(some 15), .faddr 0 1 false (.tmp 1), (some (14, false)), false⟩,
 ⟨(some 16), .load 1 false (.tmp 15), (some (14, false)), false⟩,
 ⟨(some 17), .bi .len [9].toArray 3 [(.tmp 16)], (some (14, false)), false⟩,
 ⟨(some 18), .bin .gtr 3 (.tmp 17) (.const (.int .i64 60)), (some (14, false)), false⟩,
 ⟨(some 19), .pick (.tmp 14) (.const (.bool true)) (.tmp 18), none, false⟩]
def ac18_G3 : List AOper :=
 [⟨(some 36), .faddr 2 1 false (.tmp 1), (some (35, false)), false⟩,
 ⟨(some 37), .load 1 false (.tmp 36), (some (35, false)), false⟩,
 ⟨(some 38), .move (.tmp 3), (some (35, false)), false⟩,
 ⟨(some 39), .iaddr 7 (.tmp 37) (.tmp 38), (some (35, false)), false⟩,
 ⟨(some 40), .faddr 6 1 false (.tmp 39), (some (35, false)), false⟩,
 ⟨(some 41), .load 1 false (.tmp 40), (some (35, false)), false⟩,
 ⟨(some 42), .bi .len [63].toArray 3 [(.tmp 41)], (some (35, false)), false⟩,
 ⟨(some 43), .bin .gtr 3 (.tmp 42) (.const (.int .i64 40)), (some (35, false)), false⟩,
 ⟨(some 44), .pick (.tmp 35) (.const (.bool true)) (.tmp 43), none, false⟩]
def ac18_L1 : AC :=
 .seq (.seq (.region false [⟨(some 20), .move (.tmp 3), none, false⟩,
 ⟨(some 21), .faddr 2 1 false (.tmp 1), none, false⟩,
 ⟨(some 22), .load 1 false (.tmp 21), none, false⟩,
 ⟨(some 23), .bi .len [47].toArray 3 [(.tmp 22)], none, false⟩,
 ⟨(some 24), .bin .lss 3 (.tmp 20) (.tmp 23), none, false⟩])
 (.cond (.tmp 24)
 (.skip)
 (.exit 0)))
 (.seq (.block 1 (.seq (.region false (⟨(some 27), .faddr 2 1 false (.tmp 1), none, false⟩ :: ⟨(some 28), .load 1 false (.tmp 27), none, false⟩ :: ⟨(some 29), .move (.tmp 3), none, false⟩ :: ⟨(some 30), .iaddr 7 (.tmp 28) (.tmp 29), none, false⟩ :: ⟨(some 31), .faddr 5 1 false (.tmp 30), none, false⟩ :: ⟨(some 32), .load 1 false (.tmp 31), none, false⟩ :: ⟨(some 33), .bi .len [63].toArray 3 [(.tmp 32)], none, false⟩ :: ⟨(some 34), .bin .gtr 3 (.tmp 33) (.const (.int .i64 40)), none, false⟩ :: ⟨(some 35), .move (.tmp 34), none, false⟩ :: (ac18_G3 ++ [])))
 (.cond (.tmp 44)
 (.seq (.region false [⟨(some 2), .move (.const (.bool true)), none, false⟩])
 (.ret))
 (.skip))))
 (.region false [⟨(some 25), .move (.tmp 3), none, false⟩,
 ⟨(some 26), .bin .add 3 (.tmp 25) (.const (.int .i64 1)), none, false⟩,
 ⟨(some 3), .move (.tmp 26), none, false⟩]))
/-- patchbay/patchbaylaw21.largeAction -/
def ac18 : AC :=
 .seq (.region false [⟨(some 1), .box false 49 (.tmp 0), none, false⟩,
 ⟨(some 2), .move (.const (.bool false)), none, false⟩])
 (.seq (.seq (.region false (⟨(some 4), .faddr 1 1 false (.tmp 1), none, false⟩ :: ⟨(some 5), .load 1 false (.tmp 4), none, false⟩ :: ⟨(some 6), .bi .len [23].toArray 3 [(.tmp 5)], none, false⟩ :: ⟨(some 7), .bin .gtr 3 (.tmp 6) (.const (.int .i64 8)), none, false⟩ :: ⟨(some 8), .move (.tmp 7), none, false⟩ :: (ac18_G1 ++ (⟨(some 14), .move (.tmp 13), none, false⟩ :: (ac18_G2 ++ [])))))
 (.cond (.tmp 19)
 (.seq (.region false [⟨(some 2), .move (.const (.bool true)), none, false⟩])
 (.ret))
 (.skip)))
 (.seq (.seq (.region false [⟨(some 3), .move (.const (.int .i64 0)), none, false⟩])
 (.block 0 (.loop ac18_L1)))
 (.seq (.region false [⟨(some 2), .move (.const (.bool false)), none, false⟩])
 (.ret))))
theorem text18 : FnText Tryz.prog 18 [] 45 1 ac18 [(2, none)] :=
 ⟨Tryz.call18, follows, Tryz.f18, _, Tryz.func18, rfl, rfl, by decide, by kernel_rfl, by kernel_rfl⟩

def ac19_G1 : List AOper :=
 [⟨(some 8), .faddr 5 1 false (.tmp 1), (some (7, false)), false⟩,
 ⟨(some 9), .load 1 false (.tmp 8), (some (7, false)), false⟩,
 ⟨(some 10), .bi .len [57].toArray 3 [(.tmp 9)], (some (7, false)), false⟩,
 ⟨(some 11), .bin .gtr 3 (.tmp 10) (.const (.int .i64 12)), (some (7, false)), false⟩,
 ⟨(some 12), .pick (.tmp 7) (.const (.bool true)) (.tmp 11), none, false⟩]
def ac19_G2 : List AOper :=
 [⟨(some 14), .faddr 0 1 false (.tmp 1), (some (13, false)), false⟩,
 ⟨(some 15), .load 1 false (.tmp 14), (some (13, false)), false⟩,
 ⟨(some 16), .bi .len [9].toArray 3 [(.tmp 15)], (some (13, false)), false⟩,
 ⟨(some 17), .bin .gtr 3 (.tmp 16) (.const (.int .i64 60)), (some (13, false)), false⟩,
 ⟨(some 18), .pick (.tmp 13) (.const (.bool true)) (.tmp 17), none, false⟩]
/-- patchbay/patchbaylaw21.largeState -/
def ac19 : AC :=
 .seq (.region false [⟨(some 1), .box false 59 (.tmp 0), none, false⟩,
 ⟨(some 2), .move (.const (.bool false)), none, false⟩])
 (.seq (.region false (⟨(some 3), .faddr 1 1 false (.tmp 1), none, false⟩ :: ⟨(some 4), .load 1 false (.tmp 3), none, false⟩ :: ⟨(some 5), .bi .len [29].toArray 3 [(.tmp 4)], none, false⟩ :: ⟨(some 6), .bin .gtr 3 (.tmp 5) (.const (.int .i64 8)), none, false⟩ :: ⟨(some 7), .move (.tmp 6), none, false⟩ :: (ac19_G1 ++ (⟨(some 13), .move (.tmp 12), none, false⟩ :: (ac19_G2 ++ [⟨(some 2), .move (.tmp 18), none, false⟩])))))
 (.ret))
theorem text19 : FnText Tryz.prog 19 [] 19 1 ac19 [(2, none)] :=
 ⟨Tryz.call19, follows, Tryz.f19, _, Tryz.func19, rfl, rfl, by decide, by kernel_rfl, by kernel_rfl⟩

def ac4_G1 : List AOper :=
 [⟨(some 12), .faddr 1 1 false (.tmp 1), (some (11, false)), false⟩,
 ⟨(some 13), .load 1 false (.tmp 12), (some (11, false)), false⟩,
 ⟨(some 14), .bi .len [22].toArray 3 [(.tmp 13)], (some (11, false)), false⟩,
 ⟨(some 15), .bin .gtr 3 (.tmp 14) (.const (.int .i64 16)), (some (11, false)), false⟩,
 ⟨(some 16), .pick (.tmp 11) (.const (.bool true)) (.tmp 15), none, false⟩]
def ac4_G2 : List AOper :=
 [⟨(some 18), .faddr 2 1 false (.tmp 1), (some (17, false)), false⟩,
 ⟨(some 19), .load 1 false (.tmp 18), (some (17, false)), false⟩,
 ⟨(some 20), .bi .len [23].toArray 3 [(.tmp 19)], (some (17, false)), false⟩,
 ⟨(some 21), .bin .gtr 3 (.tmp 20) (.const (.int .i64 20)), (some (17, false)), false⟩,
 ⟨(some 22), .pick (.tmp 17) (.const (.bool true)) (.tmp 21), none, false⟩]
def ac4_G3 : List AOper :=
 [⟨(some 24), .faddr 3 1 false (.tmp 1), (some (23, false)), false⟩,
 ⟨(some 25), .load 1 false (.tmp 24), (some (23, false)), false⟩,
 ⟨(some 26), .bi .len [24].toArray 3 [(.tmp 25)], (some (23, false)), false⟩,
 ⟨(some 27), .bin .gtr 3 (.tmp 26) (.const (.int .i64 8)), (some (23, false)), false⟩,
 ⟨(some 28), .pick (.tmp 23) (.const (.bool true)) (.tmp 27), none, false⟩]
def ac4_G4 : List AOper :=
 [⟨(some 30), .faddr 4 1 false (.tmp 1), (some (29, false)), false⟩,
 ⟨(some 31), .load 1 false (.tmp 30), (some (29, false)), false⟩,
 ⟨(some 32), .bi .len [25].toArray 3 [(.tmp 31)], (some (29, false)), false⟩,
 ⟨(some 33), .bin .gtr 3 (.tmp 32) (.const (.int .i64 24)), (some (29, false)), false⟩,
 ⟨(some 34), .pick (.tmp 29) (.const (.bool true)) (.tmp 33), none, false⟩]
def ac4_G5 : List AOper :=
 [⟨(some 36), .faddr 5 1 false (.tmp 1), (some (35, false)), false⟩,
 ⟨(some 37), .load 1 false (.tmp 36), (some (35, false)), false⟩,
 ⟨(some 38), .bi .len [26].toArray 3 [(.tmp 37)], (some (35, false)), false⟩,
 ⟨(some 39), .bin .gtr 3 (.tmp 38) (.const (.int .i64 16)), (some (35, false)), false⟩,
 ⟨(some 40), .pick (.tmp 35) (.const (.bool true)) (.tmp 39), none, false⟩]
def ac4_G6 : List AOper :=
 [⟨(some 42), .faddr 6 1 false (.tmp 1), (some (41, false)), false⟩,
 ⟨(some 43), .load 1 false (.tmp 42), (some (41, false)), false⟩,
 ⟨(some 44), .bi .len [27].toArray 3 [(.tmp 43)], (some (41, false)), false⟩,
 ⟨(some 45), .bin .gtr 3 (.tmp 44) (.const (.int .i64 16)), (some (41, false)), false⟩,
 ⟨(some 46), .pick (.tmp 41) (.const (.bool true)) (.tmp 45), none, false⟩]
def ac4_G7 : List AOper :=
 [⟨(some 48), .faddr 8 1 false (.tmp 1), (some (47, false)), false⟩,
 ⟨(some 49), .load 1 false (.tmp 48), (some (47, false)), false⟩,
 ⟨(some 50), .bi .len [29].toArray 3 [(.tmp 49)], (some (47, false)), false⟩,
 ⟨(some 51), .bin .gtr 3 (.tmp 50) (.const (.int .i64 16)), (some (47, false)), false⟩,
 ⟨(some 52), .pick (.tmp 47) (.const (.bool true)) (.tmp 51), none, false⟩]
def ac4_G8 : List AOper :=
 [⟨(some 54), .faddr 7 1 false (.tmp 1), (some (53, false)), false⟩,
 ⟨(some 55), .load 1 false (.tmp 54), (some (53, false)), false⟩,
 ⟨(some 56), .call (.func 16) [(.tmp 55), (.const (.int .i64 10))], (some (53, false)), false⟩,
 ⟨(some 57), .bin .gtr 3 (.tmp 56) (.const (.int .i64 60)), (some (53, false)), false⟩,
 ⟨(some 58), .pick (.tmp 53) (.const (.bool true)) (.tmp 57), none, false⟩]
def ac4_L1 : AC :=
 .seq (.seq (.region false [⟨(some 59), .move (.tmp 3), none, false⟩,
 ⟨(some 60), .faddr 1 1 false (.tmp 1), none, false⟩,
 ⟨(some 61), .load 1 false (.tmp 60), none, false⟩,
 ⟨(some 62), .bi .len [22].toArray 3 [(.tmp 61)], none, false⟩,
 ⟨(some 63), .bin .lss 3 (.tmp 59) (.tmp 62), none, false⟩])
 (.cond (.tmp 63)
 (.skip)
 (.exit 0)))
 (.seq (.block 1 (.seq (.region false [⟨(some 66), .faddr 1 1 false (.tmp 1), none, false⟩,
 ⟨(some 67), .load 1 false (.tmp 66), none, false⟩,
 ⟨(some 68), .move (.tmp 3), none, false⟩,
 ⟨(some 69), .iaddr 2 (.tmp 67) (.tmp 68), none, false⟩,
 ⟨(some 70), .load 2 true (.tmp 69), none, false⟩,
 ⟨(some 71), .call (.func 17) [(.tmp 70)], none, false⟩,
 ⟨(some 72), .un .not (.tmp 71), none, false⟩])
 (.cond (.tmp 72)
 (.seq (.region false [⟨(some 2), .move (.const (.bool true)), none, false⟩])
 (.ret))
 (.skip))))
 (.region false [⟨(some 64), .move (.tmp 3), none, false⟩,
 ⟨(some 65), .bin .add 3 (.tmp 64) (.const (.int .i64 1)), none, false⟩,
 ⟨(some 3), .move (.tmp 65), none, false⟩]))
def ac4_L2 : AC :=
 .seq (.seq (.region false [⟨(some 73), .move (.tmp 4), none, false⟩,
 ⟨(some 74), .faddr 4 1 false (.tmp 1), none, false⟩,
 ⟨(some 75), .load 1 false (.tmp 74), none, false⟩,
 ⟨(some 76), .bi .len [25].toArray 3 [(.tmp 75)], none, false⟩,
 ⟨(some 77), .bin .lss 3 (.tmp 73) (.tmp 76), none, false⟩])
 (.cond (.tmp 77)
 (.skip)
 (.exit 2)))
 (.seq (.block 3 (.seq (.region false [⟨(some 80), .faddr 4 1 false (.tmp 1), none, false⟩,
 ⟨(some 81), .load 1 false (.tmp 80), none, false⟩,
 ⟨(some 82), .move (.tmp 4), none, false⟩,
 ⟨(some 83), .iaddr 3 (.tmp 81) (.tmp 82), none, false⟩,
 ⟨(some 84), .load 3 true (.tmp 83), none, false⟩,
 ⟨(some 85), .call (.func 18) [(.tmp 84)], none, false⟩])
 (.cond (.tmp 85)
 (.seq (.region false [⟨(some 2), .move (.const (.bool true)), none, false⟩])
 (.ret))
 (.skip))))
 (.region false [⟨(some 78), .move (.tmp 4), none, false⟩,
 ⟨(some 79), .bin .add 3 (.tmp 78) (.const (.int .i64 1)), none, false⟩,
 ⟨(some 4), .move (.tmp 79), none, false⟩]))
def ac4_G9 : List AOper :=
 [⟨(some 102), .faddr 5 1 false (.tmp 1), (some (101, false)), false⟩,
 ⟨(some 103), .load 1 false (.tmp 102), (some (101, false)), false⟩,
 ⟨(some 104), .move (.tmp 5), (some (101, false)), false⟩,
 ⟨(some 105), .iaddr 6 (.tmp 103) (.tmp 104), (some (101, false)), false⟩,
 ⟨(some 106), .faddr 2 1 false (.tmp 105), (some (101, false)), false⟩,
 ⟨(some 107), .load 1 false (.tmp 106), (some (101, false)), false⟩,
 ⟨(some 108), .bi .len [29].toArray 3 [(.tmp 107)], (some (101, false)), false⟩,
 ⟨(some 109), .bin .gtr 3 (.tmp 108) (.const (.int .i64 24)), (some (101, false)), false⟩,
 ⟨(some 110), .pick (.tmp 101) (.const (.bool true)) (.tmp 109), none, false⟩]
def ac4_G10 : List AOper :=
 [⟨(some 112), .faddr 5 1 false (.tmp 1), (some (111, false)), false⟩,
 ⟨(some 113), .load 1 false (.tmp 112), (some (111, false)), false⟩,
 ⟨(some 114), .move (.tmp 5), (some (111, false)), false⟩,
 ⟨(some 115), .iaddr 6 (.tmp 113) (.tmp 114), (some (111, false)), false⟩,
 ⟨(some 116), .faddr 3 2 true (.tmp 115), (some (111, false)), false⟩,
 ⟨(some 117), .faddr 1 1 false (.tmp 116), (some (111, false)), false⟩,
 ⟨(some 118), .load 1 false (.tmp 117), (some (111, false)), false⟩,
 ⟨(some 119), .bi .len [51].toArray 3 [(.tmp 118)], (some (111, false)), false⟩,
 ⟨(some 120), .bin .gtr 3 (.tmp 119) (.const (.int .i64 8)), (some (111, false)), false⟩,
 ⟨(some 121), .pick (.tmp 111) (.const (.bool true)) (.tmp 120), none, false⟩]
def ac4_G11 : List AOper :=
 [⟨(some 123), .faddr 5 1 false (.tmp 1), (some (122, false)), false⟩,
 ⟨(some 124), .load 1 false (.tmp 123), (some (122, false)), false⟩,
 ⟨(some 125), .move (.tmp 5), (some (122, false)), false⟩,
 ⟨(some 126), .iaddr 6 (.tmp 124) (.tmp 125), (some (122, false)), false⟩,
 ⟨(some 127), .faddr 0 1 false (.tmp 126), (some (122, false)), false⟩,
 ⟨(some 128), .load 1 false (.tmp 127), (some (122, false)), false⟩,
 ⟨(some 129), .bi .len [9].toArray 3 [(.tmp 128)], (some (122, false)), false⟩,
 ⟨(some 130), .bin .gtr 3 (.tmp 129) (.const (.int .i64 60)), (some (122, false)), false⟩,
 ⟨(some 131), .pick (.tmp 122) (.const (.bool true)) (.tmp 130), none, false⟩]
def ac4_L3 : AC :=
 .seq (.seq (.region false [⟨(some 86), .move (.tmp 5), none, false⟩,
 ⟨(some 87), .faddr 5 1 false (.tmp 1), none, false⟩,
 ⟨(some 88), .load 1 false (.tmp 87), none, false⟩,
 ⟨(some 89), .bi .len [26].toArray 3 [(.tmp 88)], none, false⟩,
 ⟨(some 90), .bin .lss 3 (.tmp 86) (.tmp 89), none, false⟩])
 (.cond (.tmp 90)
 (.skip)
 (.exit 4)))
 (.seq (.block 5 (.seq (.region false (⟨(some 93), .faddr 5 1 false (.tmp 1), none, false⟩ :: ⟨(some 94), .load 1 false (.tmp 93), none, false⟩ :: ⟨(some 95), .move (.tmp 5), none, false⟩ :: ⟨(some 96), .iaddr 6 (.tmp 94) (.tmp 95), none, false⟩ :: ⟨(some 97), .faddr 1 1 false (.tmp 96), none, false⟩ :: ⟨(some 98), .load 1 false (.tmp 97), none, false⟩ :: ⟨(some 99), .bi .len [50].toArray 3 [(.tmp 98)], none, false⟩ :: ⟨(some 100), .bin .gtr 3 (.tmp 99) (.const (.int .i64 10)), none, false⟩ :: ⟨(some 101), .move (.tmp 100), none, false⟩ :: (ac4_G9 ++ (⟨(some 111), .move (.tmp 110), none, false⟩ :: (ac4_G10 ++ (⟨(some 122), .move (.tmp 121), none, false⟩ :: (ac4_G11 ++ [])))))))
 (.cond (.tmp 131)
 (.seq (.region false [⟨(some 2), .move (.const (.bool true)), none, false⟩])
 (.ret))
 (.skip))))
 (.region false [⟨(some 91), .move (.tmp 5), none, false⟩,
 ⟨(some 92), .bin .add 3 (.tmp 91) (.const (.int .i64 1)), none, false⟩,
 ⟨(some 5), .move (.tmp 92), none, false⟩]))
def ac4_L4 : AC :=
 .seq (.seq (.region false [⟨(some 132), .move (.tmp 6), none, false⟩,
 ⟨(some 133), .faddr 6 1 false (.tmp 1), none, false⟩,
 ⟨(some 134), .load 1 false (.tmp 133), none, false⟩,
 ⟨(some 135), .bi .len [27].toArray 3 [(.tmp 134)], none, false⟩,
 ⟨(some 136), .bin .lss 3 (.tmp 132) (.tmp 135), none, false⟩])
 (.cond (.tmp 136)
 (.skip)
 (.exit 6)))
 (.seq (.block 7 (.seq (.region false [⟨(some 139), .faddr 6 1 false (.tmp 1), none, false⟩,
 ⟨(some 140), .load 1 false (.tmp 139), none, false⟩,
 ⟨(some 141), .move (.tmp 6), none, false⟩,
 ⟨(some 142), .iaddr 7 (.tmp 140) (.tmp 141), none, false⟩,
 ⟨(some 143), .load 7 true (.tmp 142), none, false⟩,
 ⟨(some 144), .call (.func 19) [(.tmp 143)], none, false⟩])
 (.cond (.tmp 144)
 (.seq (.region false [⟨(some 2), .move (.const (.bool true)), none, false⟩])
 (.ret))
 (.skip))))
 (.region false [⟨(some 137), .move (.tmp 6), none, false⟩,
 ⟨(some 138), .bin .add 3 (.tmp 137) (.const (.int .i64 1)), none, false⟩,
 ⟨(some 6), .move (.tmp 138), none, false⟩]))
/-- patchbay/patchbaylaw21.TooLarge -/
def ac4 : AC :=
 .seq (.region false [⟨(some 1), .box false 31 (.tmp 0), none, false⟩,
 ⟨(some 2), .move (.const (.bool false)), none, false⟩])
 (.seq (.seq (.region false (⟨(some 7), .faddr 0 1 false (.tmp 1), none, false⟩ :: ⟨(some 8), .load 1 false (.tmp 7), none, false⟩ :: ⟨(some 9), .bi .len [9].toArray 3 [(.tmp 8)], none, false⟩ :: ⟨(some 10), .bin .gtr 3 (.tmp 9) (.const (.int .i64 60)), none, false⟩ :: ⟨(some 11), .move (.tmp 10), none, false⟩ :: (ac4_G1 ++ (⟨(some 17), .move (.tmp 16), none, false⟩ :: (ac4_G2 ++ (⟨(some 23), .move (.tmp 22), none, false⟩ :: (ac4_G3 ++ (⟨(some 29), .move (.tmp 28), none, false⟩ :: (ac4_G4 ++ (⟨(some 35), .move (.tmp 34), none, false⟩ :: (ac4_G5 ++ (⟨(some 41), .move (.tmp 40), none, false⟩ :: (ac4_G6 ++ (⟨(some 47), .move (.tmp 46), none, false⟩ :: (ac4_G7 ++ (⟨(some 53), .move (.tmp 52), none, false⟩ :: (ac4_G8 ++ [])))))))))))))))))
 (.cond (.tmp 58)
 (.seq (.region false [⟨(some 2), .move (.const (.bool true)), none, false⟩])
 (.ret))
 (.skip)))
 (.seq (.seq (.region false [⟨(some 3), .move (.const (.int .i64 0)), none, false⟩])
 (.block 0 (.loop ac4_L1)))
 (.seq (.seq (.region false [⟨(some 4), .move (.const (.int .i64 0)), none, false⟩])
 (.block 2 (.loop ac4_L2)))
 (.seq (.seq (.region false [⟨(some 5), .move (.const (.int .i64 0)), none, false⟩])
 (.block 4 (.loop ac4_L3)))
 (.seq (.seq (.region false [⟨(some 6), .move (.const (.int .i64 0)), none, false⟩])
 (.block 6 (.loop ac4_L4)))
 (.seq (.region false [⟨(some 2), .move (.const (.bool false)), none, false⟩])
 (.ret)))))))
theorem text4 : FnText Tryz.prog 4 [] 145 1 ac4 [(2, none)] :=
 ⟨Tryz.call4, follows, Tryz.f4, _, Tryz.func4, rfl, rfl, by decide, by kernel_rfl, by kernel_rfl⟩

def ac5_G1 : List AOper :=
 [⟨(some 11), .load 9 true (.tmp 1), (some (10, true)), false⟩,
 ⟨(some 12), .build [(.int .i64 0), (.int .i64 0)] [(0, 1, (.const (.int .i64 1)))], (some (10, true)), false⟩,
 ⟨(some 13), .call (.func 8) [(.tmp 11), (.tmp 12)], (some (10, true)), false⟩,
 ⟨(some 14), .bin .eql 3 (.tmp 13) (.const (.int .i64 1)), (some (10, true)), false⟩,
 ⟨(some 15), .pick (.tmp 10) (.tmp 14) (.const (.bool false)), none, false⟩]
def ac5_G2 : List AOper :=
 [⟨(some 17), .load 9 true (.tmp 1), (some (16, true)), false⟩,
 ⟨(some 18), .call (.func 10) [(.tmp 17), (.const (.int .i64 1))], (some (16, true)), false⟩,
 ⟨(some 19), .bin .eql 3 (.tmp 18) (.const (.int .i64 4)), (some (16, true)), false⟩,
 ⟨(some 20), .pick (.tmp 16) (.tmp 19) (.const (.bool false)), none, false⟩]
def ac5_G3 : List AOper :=
 [⟨(some 22), .load 9 true (.tmp 1), (some (21, true)), false⟩,
 ⟨(some 23), .build [(.int .i64 0), (.int .i64 0)] [(0, 1, (.const (.int .i64 (-1))))], (some (21, true)), false⟩,
 ⟨(some 24), .call (.func 8) [(.tmp 22), (.tmp 23)], (some (21, true)), false⟩,
 ⟨(some 25), .bin .eql 3 (.tmp 24) (.const (.int .i64 5)), (some (21, true)), false⟩,
 ⟨(some 26), .pick (.tmp 21) (.tmp 25) (.const (.bool false)), none, false⟩]
def ac5_G4 : List AOper :=
 [⟨(some 28), .load 9 true (.tmp 1), (some (27, true)), false⟩,
 ⟨(some 29), .call (.func 12) [(.tmp 28), (.const (.int .i64 0))], (some (27, true)), false⟩,
 ⟨(some 30), .bin .eql 3 (.tmp 29) (.const (.int .i64 8)), (some (27, true)), false⟩,
 ⟨(some 31), .pick (.tmp 27) (.tmp 30) (.const (.bool false)), none, false⟩]
def ac5_G5 : List AOper :=
 [⟨(some 33), .load 9 true (.tmp 1), (some (32, true)), false⟩,
 ⟨(some 34), .call (.func 12) [(.tmp 33), (.const (.int .i64 1))], (some (32, true)), false⟩,
 ⟨(some 35), .bin .eql 3 (.tmp 34) (.const (.int .i64 (-1))), (some (32, true)), false⟩,
 ⟨(some 36), .pick (.tmp 32) (.tmp 35) (.const (.bool false)), none, false⟩]
def ac5_G6 : List AOper :=
 [⟨(some 38), .load 9 true (.tmp 1), (some (37, true)), false⟩,
 ⟨(some 39), .call (.func 14) [(.tmp 38), (.const (.int .i64 2))], (some (37, true)), false⟩,
 ⟨(some 40), .bin .eql 3 (.tmp 39) (.const (.int .i64 4)), (some (37, true)), false⟩,
 ⟨(some 41), .pick (.tmp 37) (.tmp 40) (.const (.bool false)), none, false⟩]
def ac5_G7 : List AOper :=
 [⟨(some 43), .load 9 true (.tmp 1), (some (42, true)), false⟩,
 ⟨(some 44), .build [(.int .i64 0), (.slice none 0 0), (.slice none 0 0)] [], (some (42, true)), false⟩,
 ⟨(some 45), .call (.func 22) [(.tmp 43), (.tmp 44)], (some (42, true)), false⟩,
 ⟨(some 46), .bslice false 3 1 false [(.const (.int .i64 4)), (.const (.int .i64 5))], (some (42, true)), false⟩,
 ⟨(some 47), .call (.func 21) [(.tmp 45), (.tmp 46)], (some (42, true)), false⟩,
 ⟨(some 48), .pick (.tmp 42) (.tmp 47) (.const (.bool false)), none, false⟩]
def ac5_G8 : List AOper :=
 [⟨(some 50), .load 9 true (.tmp 1), (some (49, true)), false⟩,
 ⟨(some 51), .build [(.int .i64 0), (.slice none 0 0), (.slice none 0 0)] [], (some (49, true)), false⟩,
 ⟨(some 52), .call (.func 23) [(.tmp 50), (.tmp 51)], (some (49, true)), false⟩,
 ⟨(some 53), .bslice false 3 1 false [(.const (.int .i64 2))], (some (49, true)), false⟩,
 ⟨(some 54), .call (.func 21) [(.tmp 52), (.tmp 53)], (some (49, true)), false⟩,
 ⟨(some 55), .pick (.tmp 49) (.tmp 54) (.const (.bool false)), none, false⟩]
def ac5_G9 : List AOper :=
 [⟨(some 57), .load 9 true (.tmp 1), (some (56, true)), false⟩,
 ⟨(some 58), .load 3 true (.tmp 2), (some (56, true)), false⟩,
 ⟨(some 59), .call (.func 22) [(.tmp 57), (.tmp 58)], (some (56, true)), false⟩,
 ⟨(some 60), .bslice false 3 1 false [(.const (.int .i64 4))], (some (56, true)), false⟩,
 ⟨(some 61), .call (.func 21) [(.tmp 59), (.tmp 60)], (some (56, true)), false⟩,
 ⟨(some 62), .pick (.tmp 56) (.tmp 61) (.const (.bool false)), none, false⟩]
/-- patchbay/patchbaylaw31.works -/
def ac5 : AC :=
 .seq (.region false [⟨(some 0), .move (.const (.bool false)), none, false⟩])
 (.seq (.region false [⟨(some 3), .call (.func 20) [], none, false⟩,
 ⟨(some 1), .alloc true 31 (.agg [(.string ⟨[].toArray⟩), (.slice none 0 0), (.slice none 0 0), (.slice none 0 0), (.slice none 0 0), (.slice none 0 0), (.slice none 0 0), (.slice none 0 0), (.slice none 0 0)].toArray), none, false⟩,
 ⟨none, .store 9 (.tmp 1) (.tmp 3), none, false⟩])
 (.seq (.region false [⟨(some 4), .build [(.int .i64 0), (.int .i64 0), (.int .i64 0)] [(0, 1, (.const (.int .i64 4))), (1, 1, (.const (.int .i64 1)))], none, false⟩,
 ⟨(some 5), .bslice false 62 3 false [(.tmp 4)], none, false⟩,
 ⟨(some 6), .build [(.int .i64 0), (.slice none 0 0), (.slice none 0 0)] [(0, 1, (.const (.int .i64 (-1)))), (1, 1, (.tmp 5))], none, false⟩,
 ⟨(some 2), .alloc true 66 (.agg [(.int .i64 0), (.slice none 0 0), (.slice none 0 0)].toArray), none, false⟩,
 ⟨none, .store 3 (.tmp 2) (.tmp 6), none, false⟩])
 (.seq (.region false (⟨(some 7), .load 9 true (.tmp 1), none, false⟩ :: ⟨(some 8), .call (.func 6) [(.tmp 7)], none, false⟩ :: ⟨(some 9), .bin .eql 3 (.tmp 8) (.const (.int .i64 9)), none, false⟩ :: ⟨(some 10), .move (.tmp 9), none, false⟩ :: (ac5_G1 ++ (⟨(some 16), .move (.tmp 15), none, false⟩ :: (ac5_G2 ++ (⟨(some 21), .move (.tmp 20), none, false⟩ :: (ac5_G3 ++ (⟨(some 27), .move (.tmp 26), none, false⟩ :: (ac5_G4 ++ (⟨(some 32), .move (.tmp 31), none, false⟩ :: (ac5_G5 ++ (⟨(some 37), .move (.tmp 36), none, false⟩ :: (ac5_G6 ++ (⟨(some 42), .move (.tmp 41), none, false⟩ :: (ac5_G7 ++ (⟨(some 49), .move (.tmp 48), none, false⟩ :: (ac5_G8 ++ (⟨(some 56), .move (.tmp 55), none, false⟩ :: (ac5_G9 ++ [⟨(some 0), .move (.tmp 62), none, false⟩])))))))))))))))))))
 (.ret))))
theorem text5 : FnText Tryz.prog 5 [1, 2] 63 0 ac5 [(0, none)] :=
 ⟨Tryz.call5, follows, Tryz.f5, _, Tryz.func5, rfl, rfl, by decide, by kernel_rfl, by kernel_rfl⟩

def ac37_L1 : AC :=
 .seq (.region false [⟨(some 20), .bin .lss 3 (.tmp 19) (.tmp 18), none, false⟩])
 (.seq (.cond (.tmp 20)
 (.skip)
 (.exit 0))
 (.seq (.block 1 (.seq (.region false [⟨(some 21), .iaddr 2 (.tmp 17) (.tmp 19), none, false⟩,
 ⟨(some 22), .load 2 true (.tmp 21), none, false⟩,
 ⟨(some 5), .alloc true 45 (.agg [(.string ⟨[].toArray⟩), (.slice none 0 0)].toArray), none, false⟩,
 ⟨none, .store 2 (.tmp 5) (.tmp 22), none, false⟩])
 (.region false [⟨(some 23), .iaddrA 4 1 false (.tmp 3) (.const (.int .i64 0)), none, false⟩,
 ⟨(some 24), .load 1 false (.tmp 23), none, false⟩,
 ⟨(some 25), .faddr 1 1 false (.tmp 5), none, false⟩,
 ⟨(some 26), .load 1 false (.tmp 25), none, false⟩,
 ⟨(some 27), .bi .len [23].toArray 3 [(.tmp 26)], none, false⟩,
 ⟨(some 28), .bin .add 3 (.tmp 24) (.tmp 27), none, false⟩,
 ⟨(some 29), .iaddrA 4 1 false (.tmp 3) (.const (.int .i64 0)), none, false⟩,
 ⟨none, .store 1 (.tmp 29) (.tmp 28), none, false⟩])))
 (.region false [⟨(some 30), .bin .add 3 (.tmp 19) (.const (.int .i64 1)), none, false⟩,
 ⟨(some 19), .move (.tmp 30), none, false⟩])))
/-- patchbay/access.counts -/
def ac37 : AC :=
 .seq (.region false [⟨(some 1), .box false 31 (.tmp 0), none, false⟩,
 ⟨(some 2), .alloc true 92 (.agg [(.int .i64 0), (.int .i64 0), (.int .i64 0), (.int .i64 0)].toArray), none, false⟩])
 (.seq (.region false [⟨(some 6), .faddr 1 1 false (.tmp 1), none, false⟩,
 ⟨(some 7), .load 1 false (.tmp 6), none, false⟩,
 ⟨(some 8), .bi .len [22].toArray 3 [(.tmp 7)], none, false⟩,
 ⟨(some 9), .faddr 2 1 false (.tmp 1), none, false⟩,
 ⟨(some 10), .load 1 false (.tmp 9), none, false⟩,
 ⟨(some 11), .bi .len [23].toArray 3 [(.tmp 10)], none, false⟩,
 ⟨(some 12), .faddr 3 1 false (.tmp 1), none, false⟩,
 ⟨(some 13), .load 1 false (.tmp 12), none, false⟩,
 ⟨(some 14), .bi .len [24].toArray 3 [(.tmp 13)], none, false⟩,
 ⟨(some 15), .build [(.int .i64 0), (.int .i64 0), (.int .i64 0), (.int .i64 0)] [(1, 1, (.tmp 8)), (2, 1, (.tmp 11)), (3, 1, (.tmp 14))], none, false⟩,
 ⟨(some 3), .alloc true 92 (.agg [(.int .i64 0), (.int .i64 0), (.int .i64 0), (.int .i64 0)].toArray), none, false⟩,
 ⟨none, .store 4 (.tmp 3) (.tmp 15), none, false⟩])
 (.seq (.seq (.region false [⟨(some 16), .faddr 1 1 false (.tmp 1), none, false⟩,
 ⟨(some 17), .load 1 false (.tmp 16), none, false⟩,
 ⟨(some 18), .bi .len [22].toArray 3 [(.tmp 17)], none, false⟩,
 ⟨(some 19), .move (.const (.int .i64 0)), none, false⟩])
 (.block 0 (.loop ac37_L1)))
 (.seq (.region false [⟨(some 31), .load 4 true (.tmp 3), none, false⟩,
 ⟨none, .store 4 (.tmp 2) (.tmp 31), none, false⟩])
 (.ret))))
theorem text37 : FnText Tryz.prog 37 [2, 3, 5] 32 1 ac37 [(2, some (4, true))] :=
 ⟨Tryz.call37, follows, Tryz.f37, _, Tryz.func37, rfl, rfl, by decide, by kernel_rfl, by kernel_rfl⟩

def ac24_L1 : AC :=
 .seq (.region false [⟨(some 11), .bin .lss 3 (.tmp 10) (.const (.int .i64 4)), none, false⟩])
 (.seq (.cond (.tmp 11)
 (.skip)
 (.exit 0))
 (.seq (.block 1 (.seq (.region false [⟨(some 12), .move (.tmp 10), none, false⟩,
 ⟨(some 13), .indexA 4 1 false (.tmp 9) (.tmp 10), none, false⟩,
 ⟨(some 6), .move (.tmp 12), none, false⟩,
 ⟨(some 7), .move (.tmp 13), none, false⟩])
 (.seq (.region false [⟨(some 14), .move (.tmp 6), none, false⟩,
 ⟨(some 15), .move (.tmp 1), none, false⟩,
 ⟨(some 16), .bin .lss 3 (.tmp 14) (.tmp 15), none, false⟩])
 (.cond (.tmp 16)
 (.region false [⟨(some 17), .move (.tmp 5), none, false⟩,
 ⟨(some 18), .move (.tmp 7), none, false⟩,
 ⟨(some 19), .bin .add 3 (.tmp 17) (.tmp 18), none, false⟩,
 ⟨(some 5), .move (.tmp 19), none, false⟩])
 (.skip)))))
 (.region false [⟨(some 20), .bin .add 3 (.tmp 10) (.const (.int .i64 1)), none, false⟩,
 ⟨(some 10), .move (.tmp 20), none, false⟩])))
/-- patchbay/access.first -/
def ac24 : AC :=
 .seq (.region false [⟨(some 2), .box false 31 (.tmp 0), none, false⟩,
 ⟨(some 4), .move (.const (.int .i64 0)), none, false⟩])
 (.seq (.region false [⟨(some 5), .move (.const (.int .i64 0)), none, false⟩])
 (.seq (.seq (.region false [⟨(some 8), .load 9 true (.tmp 2), none, false⟩,
 ⟨(some 9), .call (.func 37) [(.tmp 8)], none, false⟩,
 ⟨(some 10), .move (.const (.int .i64 0)), none, false⟩])
 (.block 0 (.loop ac24_L1)))
 (.seq (.region false [⟨(some 21), .move (.tmp 5), none, false⟩,
 ⟨(some 4), .move (.tmp 21), none, false⟩])
 (.ret))))
theorem text24 : FnText Tryz.prog 24 [] 22 2 ac24 [(4, none)] :=
 ⟨Tryz.call24, follows, Tryz.f24, _, Tryz.func24, rfl, rfl, by decide, by kernel_rfl, by kernel_rfl⟩


/-- patchbay/access.Cells -/
def ac6 : AC :=
 .seq (.region false [⟨(some 1), .box false 31 (.tmp 0), none, false⟩,
 ⟨(some 2), .move (.const (.int .i64 0)), none, false⟩])
 (.seq (.region false [⟨(some 3), .load 9 true (.tmp 1), none, false⟩,
 ⟨(some 4), .call (.func 24) [(.tmp 3), (.const (.int .i64 4))], none, false⟩,
 ⟨(some 2), .move (.tmp 4), none, false⟩])
 (.ret))
theorem text6 : FnText Tryz.prog 6 [] 5 1 ac6 [(2, none)] :=
 ⟨Tryz.call6, follows, Tryz.f6, _, Tryz.func6, rfl, rfl, by decide, by kernel_rfl, by kernel_rfl⟩

def ac25_L1 : AC :=
 .seq (.seq (.region false [⟨(some 7), .move (.tmp 6), none, false⟩,
 ⟨(some 8), .move (.tmp 1), none, false⟩,
 ⟨(some 9), .bin .lss 3 (.tmp 7) (.tmp 8), none, false⟩])
 (.cond (.tmp 9)
 (.skip)
 (.exit 0)))
 (.seq (.block 1 (.region false [⟨(some 12), .move (.tmp 5), none, false⟩,
 ⟨(some 13), .faddr 1 1 false (.tmp 2), none, false⟩,
 ⟨(some 14), .load 1 false (.tmp 13), none, false⟩,
 ⟨(some 15), .move (.tmp 6), none, false⟩,
 ⟨(some 16), .iaddr 2 (.tmp 14) (.tmp 15), none, false⟩,
 ⟨(some 17), .faddr 1 1 false (.tmp 16), none, false⟩,
 ⟨(some 18), .load 1 false (.tmp 17), none, false⟩,
 ⟨(some 19), .bi .len [23].toArray 3 [(.tmp 18)], none, false⟩,
 ⟨(some 20), .bin .add 3 (.tmp 12) (.tmp 19), none, false⟩,
 ⟨(some 5), .move (.tmp 20), none, false⟩]))
 (.region false [⟨(some 10), .move (.tmp 6), none, false⟩,
 ⟨(some 11), .bin .add 3 (.tmp 10) (.const (.int .i64 1)), none, false⟩,
 ⟨(some 6), .move (.tmp 11), none, false⟩]))
/-- patchbay/patchbayref31.fields -/
def ac25 : AC :=
 .seq (.region false [⟨(some 2), .box false 31 (.tmp 0), none, false⟩,
 ⟨(some 4), .move (.const (.int .i64 0)), none, false⟩])
 (.seq (.region false [⟨(some 5), .move (.const (.int .i64 0)), none, false⟩])
 (.seq (.seq (.region false [⟨(some 6), .move (.const (.int .i64 0)), none, false⟩])
 (.block 0 (.loop ac25_L1)))
 (.seq (.region false [⟨(some 21), .move (.tmp 5), none, false⟩,
 ⟨(some 4), .move (.tmp 21), none, false⟩])
 (.ret))))
theorem text25 : FnText Tryz.prog 25 [] 22 2 ac25 [(4, none)] :=
 ⟨Tryz.call25, follows, Tryz.f25, _, Tryz.func25, rfl, rfl, by decide, by kernel_rfl, by kernel_rfl⟩


/-- patchbay/patchbayref31.Cells -/
def ac7 : AC :=
 .seq (.region false [⟨(some 1), .box false 31 (.tmp 0), none, false⟩,
 ⟨(some 2), .move (.const (.int .i64 0)), none, false⟩])
 (.seq (.region true [⟨(some 3), .load 9 true (.tmp 1), none, false⟩,
 ⟨(some 4), .faddr 1 1 false (.tmp 1), none, false⟩,
 ⟨(some 5), .load 1 false (.tmp 4), none, false⟩,
 ⟨(some 6), .bi .len [22].toArray 3 [(.tmp 5)], none, false⟩,
 ⟨(some 7), .call (.func 25) [(.tmp 3), (.tmp 6)], none, false⟩,
 ⟨(some 8), .faddr 1 1 false (.tmp 1), none, false⟩,
 ⟨(some 9), .load 1 false (.tmp 8), none, false⟩,
 ⟨(some 10), .bi .len [22].toArray 3 [(.tmp 9)], none, false⟩,
 ⟨(some 11), .bin .add 3 (.tmp 7) (.tmp 10), none, false⟩,
 ⟨(some 12), .faddr 2 1 false (.tmp 1), none, false⟩,
 ⟨(some 13), .load 1 false (.tmp 12), none, false⟩,
 ⟨(some 14), .bi .len [23].toArray 3 [(.tmp 13)], none, false⟩,
 ⟨(some 15), .bin .add 3 (.tmp 11) (.tmp 14), none, false⟩,
 ⟨(some 16), .faddr 3 1 false (.tmp 1), none, false⟩,
 ⟨(some 17), .load 1 false (.tmp 16), none, false⟩,
 ⟨(some 18), .bi .len [24].toArray 3 [(.tmp 17)], none, false⟩,
 ⟨(some 19), .bin .add 3 (.tmp 15) (.tmp 18), none, false⟩,
 ⟨(some 2), .move (.tmp 19), none, false⟩])
 (.ret))
theorem text7 : FnText Tryz.prog 7 [] 20 1 ac7 [(2, none)] :=
 ⟨Tryz.call7, follows, Tryz.f7, _, Tryz.func7, rfl, rfl, by decide, by kernel_rfl, by kernel_rfl⟩

def ac26_G1 : List AOper :=
 [⟨(some 10), .move (.tmp 2), (some (9, false)), false⟩,
 ⟨(some 11), .load 9 true (.tmp 3), (some (9, false)), false⟩,
 ⟨(some 12), .call (.func 37) [(.tmp 11)], (some (9, false)), false⟩,
 ⟨(some 13), .move (.tmp 1), (some (9, false)), false⟩,
 ⟨(some 14), .indexA 4 1 false (.tmp 12) (.tmp 13), (some (9, false)), false⟩,
 ⟨(some 15), .bin .geq 3 (.tmp 10) (.tmp 14), (some (9, false)), false⟩,
 ⟨(some 16), .pick (.tmp 9) (.const (.bool true)) (.tmp 15), none, false⟩]
/-- patchbay/access.cell -/
def ac26 : AC :=
 .seq (.region false [⟨(some 3), .box false 31 (.tmp 0), none, false⟩,
 ⟨(some 6), .move (.const (.int .i64 0)), none, false⟩])
 (.seq (.seq (.region false (⟨(some 7), .move (.tmp 2), none, false⟩ :: ⟨(some 8), .bin .lss 3 (.tmp 7) (.const (.int .i64 0)), none, false⟩ :: ⟨(some 9), .move (.tmp 8), none, false⟩ :: (ac26_G1 ++ [])))
 (.cond (.tmp 16)
 (.seq (.region false [⟨(some 6), .move (.const (.int .i64 (-1))), none, false⟩])
 (.ret))
 (.skip)))
 (.seq (.region false [⟨(some 17), .load 9 true (.tmp 3), none, false⟩,
 ⟨(some 18), .move (.tmp 1), none, false⟩,
 ⟨(some 19), .call (.func 24) [(.tmp 17), (.tmp 18)], none, false⟩,
 ⟨(some 20), .move (.tmp 2), none, false⟩,
 ⟨(some 21), .bin .add 3 (.tmp 19) (.tmp 20), none, false⟩,
 ⟨(some 6), .move (.tmp 21), none, false⟩])
 (.ret)))
theorem text26 : FnText Tryz.prog 26 [] 22 3 ac26 [(6, none)] :=
 ⟨Tryz.call26, follows, Tryz.f26, _, Tryz.func26, rfl, rfl, by decide, by kernel_rfl, by kernel_rfl⟩

def ac8_G1 : List AOper :=
 [⟨(some 19), .faddr 0 1 false (.tmp 3), (some (18, false)), false⟩,
 ⟨(some 20), .load 1 false (.tmp 19), (some (18, false)), false⟩,
 ⟨(some 21), .faddr 1 1 false (.tmp 2), (some (18, false)), false⟩,
 ⟨(some 22), .load 1 false (.tmp 21), (some (18, false)), false⟩,
 ⟨(some 23), .bi .len [22].toArray 3 [(.tmp 22)], (some (18, false)), false⟩,
 ⟨(some 24), .bin .geq 3 (.tmp 20) (.tmp 23), (some (18, false)), false⟩,
 ⟨(some 25), .pick (.tmp 18) (.const (.bool true)) (.tmp 24), none, false⟩]
def ac8_G2 : List AOper :=
 [⟨(some 27), .faddr 1 1 false (.tmp 3), (some (26, false)), false⟩,
 ⟨(some 28), .load 1 false (.tmp 27), (some (26, false)), false⟩,
 ⟨(some 29), .bin .lss 3 (.tmp 28) (.const (.int .i64 0)), (some (26, false)), false⟩,
 ⟨(some 30), .pick (.tmp 26) (.const (.bool true)) (.tmp 29), none, false⟩]
def ac8_G3 : List AOper :=
 [⟨(some 32), .faddr 1 1 false (.tmp 3), (some (31, false)), false⟩,
 ⟨(some 33), .load 1 false (.tmp 32), (some (31, false)), false⟩,
 ⟨(some 34), .faddr 1 1 false (.tmp 2), (some (31, false)), false⟩,
 ⟨(some 35), .load 1 false (.tmp 34), (some (31, false)), false⟩,
 ⟨(some 36), .faddr 0 1 false (.tmp 3), (some (31, false)), false⟩,
 ⟨(some 37), .load 1 false (.tmp 36), (some (31, false)), false⟩,
 ⟨(some 38), .iaddr 2 (.tmp 35) (.tmp 37), (some (31, false)), false⟩,
 ⟨(some 39), .faddr 1 1 false (.tmp 38), (some (31, false)), false⟩,
 ⟨(some 40), .load 1 false (.tmp 39), (some (31, false)), false⟩,
 ⟨(some 41), .bi .len [23].toArray 3 [(.tmp 40)], (some (31, false)), false⟩,
 ⟨(some 42), .bin .geq 3 (.tmp 33) (.tmp 41), (some (31, false)), false⟩,
 ⟨(some 43), .pick (.tmp 31) (.const (.bool true)) (.tmp 42), none, false⟩]
def ac8_L1 : AC :=
 .seq (.region false [⟨(some 53), .bin .lss 3 (.tmp 52) (.tmp 51), none, false⟩])
 (.seq (.cond (.tmp 53)
 (.skip)
 (.exit 0))
 (.seq (.block 1 (.seq (.region false [⟨(some 54), .iaddr 2 (.tmp 50) (.tmp 52), none, false⟩,
 ⟨(some 55), .load 2 true (.tmp 54), none, false⟩,
 ⟨(some 7), .alloc true 45 (.agg [(.string ⟨[].toArray⟩), (.slice none 0 0)].toArray), none, false⟩,
 ⟨none, .store 2 (.tmp 7) (.tmp 55), none, false⟩])
 (.region false [⟨(some 56), .move (.tmp 5), none, false⟩,
 ⟨(some 57), .faddr 1 1 false (.tmp 7), none, false⟩,
 ⟨(some 58), .load 1 false (.tmp 57), none, false⟩,
 ⟨(some 59), .bi .len [23].toArray 3 [(.tmp 58)], none, false⟩,
 ⟨(some 60), .bin .add 3 (.tmp 56) (.tmp 59), none, false⟩,
 ⟨(some 5), .move (.tmp 60), none, false⟩])))
 (.region false [⟨(some 61), .bin .add 3 (.tmp 52) (.const (.int .i64 1)), none, false⟩,
 ⟨(some 52), .move (.tmp 61), none, false⟩])))
/-- patchbay/access.FieldCell -/
def ac8 : AC :=
 .seq (.region false [⟨(some 2), .box false 31 (.tmp 0), none, false⟩,
 ⟨(some 3), .box false 33 (.tmp 1), none, false⟩,
 ⟨(some 4), .move (.const (.int .i64 0)), none, false⟩])
 (.seq (.seq (.region false [⟨(some 8), .faddr 0 1 false (.tmp 3), none, false⟩,
 ⟨(some 9), .load 1 false (.tmp 8), none, false⟩,
 ⟨(some 10), .bin .eql 3 (.tmp 9) (.const (.int .i64 (-1))), none, false⟩])
 (.cond (.tmp 10)
 (.seq (.region false [⟨(some 11), .load 9 true (.tmp 2), none, false⟩,
 ⟨(some 12), .faddr 1 1 false (.tmp 3), none, false⟩,
 ⟨(some 13), .load 1 false (.tmp 12), none, false⟩,
 ⟨(some 14), .call (.func 26) [(.tmp 11), (.const (.int .i64 2)), (.tmp 13)], none, false⟩,
 ⟨(some 4), .move (.tmp 14), none, false⟩])
 (.ret))
 (.skip)))
 (.seq (.seq (.region true (⟨(some 15), .faddr 0 1 false (.tmp 3), none, false⟩ :: ⟨(some 16), .load 1 false (.tmp 15), none, false⟩ :: ⟨(some 17), .bin .lss 3 (.tmp 16) (.const (.int .i64 0)), none, false⟩ :: ⟨(some 18), .move (.tmp 17), none, false⟩ :: (ac8_G1 ++ (⟨(some 26), .move (.tmp 25), none, false⟩ :: (ac8_G2 ++ (⟨(some 31), .move (.tmp 30), none, false⟩ :: (ac8_G3 ++ [])))))))
 (.cond (.tmp 43)
 (.seq (.region false [⟨(some 4), .move (.const (.int .i64 (-1))), none, false⟩])
 (.ret))
 (.skip)))
 (.seq (.region false [⟨(some 44), .faddr 1 1 false (.tmp 3), none, false⟩,
 ⟨(some 45), .load 1 false (.tmp 44), none, false⟩,
 ⟨(some 5), .move (.tmp 45), none, false⟩])
 (.seq (.seq (.region false [⟨(some 46), .faddr 1 1 false (.tmp 2), none, false⟩,
 ⟨(some 47), .load 1 false (.tmp 46), none, false⟩,
 ⟨(some 48), .faddr 0 1 false (.tmp 3), none, false⟩,
 ⟨(some 49), .load 1 false (.tmp 48), none, false⟩,
 ⟨(some 50), .slice 22 2 (.tmp 47) none (some (.tmp 49)) none, none, false⟩,
 ⟨(some 51), .bi .len [22].toArray 3 [(.tmp 50)], none, false⟩,
 ⟨(some 52), .move (.const (.int .i64 0)), none, false⟩])
 (.block 0 (.loop ac8_L1)))
 (.seq (.region false [⟨(some 62), .move (.tmp 5), none, false⟩,
 ⟨(some 4), .move (.tmp 62), none, false⟩])
 (.ret))))))
theorem text8 : FnText Tryz.prog 8 [7] 63 2 ac8 [(4, none)] :=
 ⟨Tryz.call8, follows, Tryz.f8, _, Tryz.func8, rfl, rfl, by decide, by kernel_rfl, by kernel_rfl⟩

def ac9_G1 : List AOper :=
 [⟨(some 9), .faddr 1 1 false (.tmp 3), (some (8, true)), false⟩,
 ⟨(some 10), .load 1 false (.tmp 9), (some (8, true)), false⟩,
 ⟨(some 11), .bin .geq 3 (.tmp 10) (.const (.int .i64 0)), (some (8, true)), false⟩,
 ⟨(some 12), .pick (.tmp 8) (.tmp 11) (.const (.bool false)), none, false⟩]
def ac9_G2 : List AOper :=
 [⟨(some 14), .faddr 1 1 false (.tmp 3), (some (13, true)), false⟩,
 ⟨(some 15), .load 1 false (.tmp 14), (some (13, true)), false⟩,
 ⟨(some 16), .faddr 2 1 false (.tmp 2), (some (13, true)), false⟩,
 ⟨(some 17), .load 1 false (.tmp 16), (some (13, true)), false⟩,
 ⟨(some 18), .bi .len [23].toArray 3 [(.tmp 17)], (some (13, true)), false⟩,
 ⟨(some 19), .bin .lss 3 (.tmp 15) (.tmp 18), (some (13, true)), false⟩,
 ⟨(some 20), .pick (.tmp 13) (.tmp 19) (.const (.bool false)), none, false⟩]
def ac9_G3 : List AOper :=
 [⟨(some 37), .faddr 0 1 false (.tmp 3), (some (36, false)), false⟩,
 ⟨(some 38), .load 1 false (.tmp 37), (some (36, false)), false⟩,
 ⟨(some 39), .faddr 1 1 false (.tmp 2), (some (36, false)), false⟩,
 ⟨(some 40), .load 1 false (.tmp 39), (some (36, false)), false⟩,
 ⟨(some 41), .bi .len [22].toArray 3 [(.tmp 40)], (some (36, false)), false⟩,
 ⟨(some 42), .bin .geq 3 (.tmp 38) (.tmp 41), (some (36, false)), false⟩,
 ⟨(some 43), .pick (.tmp 36) (.const (.bool true)) (.tmp 42), none, false⟩]
def ac9_G4 : List AOper :=
 [⟨(some 45), .faddr 1 1 false (.tmp 3), (some (44, false)), false⟩,
 ⟨(some 46), .load 1 false (.tmp 45), (some (44, false)), false⟩,
 ⟨(some 47), .bin .lss 3 (.tmp 46) (.const (.int .i64 0)), (some (44, false)), false⟩,
 ⟨(some 48), .pick (.tmp 44) (.const (.bool true)) (.tmp 47), none, false⟩]
def ac9_G5 : List AOper :=
 [⟨(some 50), .faddr 1 1 false (.tmp 3), (some (49, false)), false⟩,
 ⟨(some 51), .load 1 false (.tmp 50), (some (49, false)), false⟩,
 ⟨(some 52), .faddr 1 1 false (.tmp 2), (some (49, false)), false⟩,
 ⟨(some 53), .load 1 false (.tmp 52), (some (49, false)), false⟩,
 ⟨(some 54), .faddr 0 1 false (.tmp 3), (some (49, false)), false⟩,
 ⟨(some 55), .load 1 false (.tmp 54), (some (49, false)), false⟩,
 ⟨(some 56), .iaddr 2 (.tmp 53) (.tmp 55), (some (49, false)), false⟩,
 ⟨(some 57), .faddr 1 1 false (.tmp 56), (some (49, false)), false⟩,
 ⟨(some 58), .load 1 false (.tmp 57), (some (49, false)), false⟩,
 ⟨(some 59), .bi .len [23].toArray 3 [(.tmp 58)], (some (49, false)), false⟩,
 ⟨(some 60), .bin .geq 3 (.tmp 51) (.tmp 59), (some (49, false)), false⟩,
 ⟨(some 61), .pick (.tmp 49) (.const (.bool true)) (.tmp 60), none, false⟩]
/-- patchbay/patchbayref31.FieldCell -/
def ac9 : AC :=
 .seq (.region false [⟨(some 2), .box false 31 (.tmp 0), none, false⟩,
 ⟨(some 3), .box false 33 (.tmp 1), none, false⟩,
 ⟨(some 4), .move (.const (.int .i64 0)), none, false⟩])
 (.seq (.seq (.region false (⟨(some 5), .faddr 0 1 false (.tmp 3), none, false⟩ :: ⟨(some 6), .load 1 false (.tmp 5), none, false⟩ :: ⟨(some 7), .bin .eql 3 (.tmp 6) (.const (.int .i64 (-1))), none, false⟩ :: ⟨(some 8), .move (.tmp 7), none, false⟩ :: (ac9_G1 ++ (⟨(some 13), .move (.tmp 12), none, false⟩ :: (ac9_G2 ++ [])))))
 (.cond (.tmp 20)
 (.seq (.region true [⟨(some 21), .load 9 true (.tmp 2), none, false⟩,
 ⟨(some 22), .faddr 1 1 false (.tmp 2), none, false⟩,
 ⟨(some 23), .load 1 false (.tmp 22), none, false⟩,
 ⟨(some 24), .bi .len [22].toArray 3 [(.tmp 23)], none, false⟩,
 ⟨(some 25), .call (.func 25) [(.tmp 21), (.tmp 24)], none, false⟩,
 ⟨(some 26), .faddr 1 1 false (.tmp 2), none, false⟩,
 ⟨(some 27), .load 1 false (.tmp 26), none, false⟩,
 ⟨(some 28), .bi .len [22].toArray 3 [(.tmp 27)], none, false⟩,
 ⟨(some 29), .bin .add 3 (.tmp 25) (.tmp 28), none, false⟩,
 ⟨(some 30), .faddr 1 1 false (.tmp 3), none, false⟩,
 ⟨(some 31), .load 1 false (.tmp 30), none, false⟩,
 ⟨(some 32), .bin .add 3 (.tmp 29) (.tmp 31), none, false⟩,
 ⟨(some 4), .move (.tmp 32), none, false⟩])
 (.ret))
 (.skip)))
 (.seq (.seq (.region true (⟨(some 33), .faddr 0 1 false (.tmp 3), none, false⟩ :: ⟨(some 34), .load 1 false (.tmp 33), none, false⟩ :: ⟨(some 35), .bin .lss 3 (.tmp 34) (.const (.int .i64 0)), none, false⟩ :: ⟨(some 36), .move (.tmp 35), none, false⟩ :: (ac9_G3 ++ (⟨(some 44), .move (.tmp 43), none, false⟩ :: (ac9_G4 ++ (⟨(some 49), .move (.tmp 48), none, false⟩ :: (ac9_G5 ++ [])))))))
 (.cond (.tmp 61)
 (.seq (.region false [⟨(some 4), .move (.const (.int .i64 (-1))), none, false⟩])
 (.ret))
 (.skip)))
 (.seq (.region true [⟨(some 62), .load 9 true (.tmp 2), none, false⟩,
 ⟨(some 63), .faddr 0 1 false (.tmp 3), none, false⟩,
 ⟨(some 64), .load 1 false (.tmp 63), none, false⟩,
 ⟨(some 65), .call (.func 25) [(.tmp 62), (.tmp 64)], none, false⟩,
 ⟨(some 66), .faddr 1 1 false (.tmp 3), none, false⟩,
 ⟨(some 67), .load 1 false (.tmp 66), none, false⟩,
 ⟨(some 68), .bin .add 3 (.tmp 65) (.tmp 67), none, false⟩,
 ⟨(some 4), .move (.tmp 68), none, false⟩])
 (.ret))))
theorem text9 : FnText Tryz.prog 9 [] 69 2 ac9 [(4, none)] :=
 ⟨Tryz.call9, follows, Tryz.f9, _, Tryz.func9, rfl, rfl, by decide, by kernel_rfl, by kernel_rfl⟩


/-- patchbay/access.ValidCell -/
def ac10 : AC :=
 .seq (.region false [⟨(some 2), .box false 31 (.tmp 0), none, false⟩,
 ⟨(some 4), .move (.const (.int .i64 0)), none, false⟩])
 (.seq (.region false [⟨(some 5), .load 9 true (.tmp 2), none, false⟩,
 ⟨(some 6), .move (.tmp 1), none, false⟩,
 ⟨(some 7), .call (.func 26) [(.tmp 5), (.const (.int .i64 1)), (.tmp 6)], none, false⟩,
 ⟨(some 4), .move (.tmp 7), none, false⟩])
 (.ret))
theorem text10 : FnText Tryz.prog 10 [] 8 2 ac10 [(4, none)] :=
 ⟨Tryz.call10, follows, Tryz.f10, _, Tryz.func10, rfl, rfl, by decide, by kernel_rfl, by kernel_rfl⟩

def ac11_G1 : List AOper :=
 [⟨(some 8), .move (.tmp 1), (some (7, false)), false⟩,
 ⟨(some 9), .faddr 1 1 false (.tmp 2), (some (7, false)), false⟩,
 ⟨(some 10), .load 1 false (.tmp 9), (some (7, false)), false⟩,
 ⟨(some 11), .bi .len [22].toArray 3 [(.tmp 10)], (some (7, false)), false⟩,
 ⟨(some 12), .bin .geq 3 (.tmp 8) (.tmp 11), (some (7, false)), false⟩,
 ⟨(some 13), .pick (.tmp 7) (.const (.bool true)) (.tmp 12), none, false⟩]
/-- patchbay/patchbayref31.ValidCell -/
def ac11 : AC :=
 .seq (.region false [⟨(some 2), .box false 31 (.tmp 0), none, false⟩,
 ⟨(some 4), .move (.const (.int .i64 0)), none, false⟩])
 (.seq (.seq (.region false (⟨(some 5), .move (.tmp 1), none, false⟩ :: ⟨(some 6), .bin .lss 3 (.tmp 5) (.const (.int .i64 0)), none, false⟩ :: ⟨(some 7), .move (.tmp 6), none, false⟩ :: (ac11_G1 ++ [])))
 (.cond (.tmp 13)
 (.seq (.region false [⟨(some 4), .move (.const (.int .i64 (-1))), none, false⟩])
 (.ret))
 (.skip)))
 (.seq (.region false [⟨(some 14), .load 9 true (.tmp 2), none, false⟩,
 ⟨(some 15), .faddr 1 1 false (.tmp 2), none, false⟩,
 ⟨(some 16), .load 1 false (.tmp 15), none, false⟩,
 ⟨(some 17), .bi .len [22].toArray 3 [(.tmp 16)], none, false⟩,
 ⟨(some 18), .call (.func 25) [(.tmp 14), (.tmp 17)], none, false⟩,
 ⟨(some 19), .move (.tmp 1), none, false⟩,
 ⟨(some 20), .bin .add 3 (.tmp 18) (.tmp 19), none, false⟩,
 ⟨(some 4), .move (.tmp 20), none, false⟩])
 (.ret)))
theorem text11 : FnText Tryz.prog 11 [] 21 2 ac11 [(4, none)] :=
 ⟨Tryz.call11, follows, Tryz.f11, _, Tryz.func11, rfl, rfl, by decide, by kernel_rfl, by kernel_rfl⟩


/-- patchbay/access.RegisterCell -/
def ac12 : AC :=
 .seq (.region false [⟨(some 2), .box false 31 (.tmp 0), none, false⟩,
 ⟨(some 4), .move (.const (.int .i64 0)), none, false⟩])
 (.seq (.region false [⟨(some 5), .load 9 true (.tmp 2), none, false⟩,
 ⟨(some 6), .move (.tmp 1), none, false⟩,
 ⟨(some 7), .call (.func 26) [(.tmp 5), (.const (.int .i64 3)), (.tmp 6)], none, false⟩,
 ⟨(some 4), .move (.tmp 7), none, false⟩])
 (.ret))
theorem text12 : FnText Tryz.prog 12 [] 8 2 ac12 [(4, none)] :=
 ⟨Tryz.call12, follows, Tryz.f12, _, Tryz.func12, rfl, rfl, by decide, by kernel_rfl, by kernel_rfl⟩

def ac13_G1 : List AOper :=
 [⟨(some 8), .move (.tmp 1), (some (7, false)), false⟩,
 ⟨(some 9), .faddr 3 1 false (.tmp 2), (some (7, false)), false⟩,
 ⟨(some 10), .load 1 false (.tmp 9), (some (7, false)), false⟩,
 ⟨(some 11), .bi .len [24].toArray 3 [(.tmp 10)], (some (7, false)), false⟩,
 ⟨(some 12), .bin .geq 3 (.tmp 8) (.tmp 11), (some (7, false)), false⟩,
 ⟨(some 13), .pick (.tmp 7) (.const (.bool true)) (.tmp 12), none, false⟩]
/-- patchbay/patchbayref31.RegisterCell -/
def ac13 : AC :=
 .seq (.region false [⟨(some 2), .box false 31 (.tmp 0), none, false⟩,
 ⟨(some 4), .move (.const (.int .i64 0)), none, false⟩])
 (.seq (.seq (.region false (⟨(some 5), .move (.tmp 1), none, false⟩ :: ⟨(some 6), .bin .lss 3 (.tmp 5) (.const (.int .i64 0)), none, false⟩ :: ⟨(some 7), .move (.tmp 6), none, false⟩ :: (ac13_G1 ++ [])))
 (.cond (.tmp 13)
 (.seq (.region false [⟨(some 4), .move (.const (.int .i64 (-1))), none, false⟩])
 (.ret))
 (.skip)))
 (.seq (.region true [⟨(some 14), .load 9 true (.tmp 2), none, false⟩,
 ⟨(some 15), .faddr 1 1 false (.tmp 2), none, false⟩,
 ⟨(some 16), .load 1 false (.tmp 15), none, false⟩,
 ⟨(some 17), .bi .len [22].toArray 3 [(.tmp 16)], none, false⟩,
 ⟨(some 18), .call (.func 25) [(.tmp 14), (.tmp 17)], none, false⟩,
 ⟨(some 19), .faddr 1 1 false (.tmp 2), none, false⟩,
 ⟨(some 20), .load 1 false (.tmp 19), none, false⟩,
 ⟨(some 21), .bi .len [22].toArray 3 [(.tmp 20)], none, false⟩,
 ⟨(some 22), .bin .add 3 (.tmp 18) (.tmp 21), none, false⟩,
 ⟨(some 23), .faddr 2 1 false (.tmp 2), none, false⟩,
 ⟨(some 24), .load 1 false (.tmp 23), none, false⟩,
 ⟨(some 25), .bi .len [23].toArray 3 [(.tmp 24)], none, false⟩,
 ⟨(some 26), .bin .add 3 (.tmp 22) (.tmp 25), none, false⟩,
 ⟨(some 27), .move (.tmp 1), none, false⟩,
 ⟨(some 28), .bin .add 3 (.tmp 26) (.tmp 27), none, false⟩,
 ⟨(some 4), .move (.tmp 28), none, false⟩])
 (.ret)))
theorem text13 : FnText Tryz.prog 13 [] 29 2 ac13 [(4, none)] :=
 ⟨Tryz.call13, follows, Tryz.f13, _, Tryz.func13, rfl, rfl, by decide, by kernel_rfl, by kernel_rfl⟩

def ac52_G1 : List AOper :=
 [⟨(some 9), .move (.tmp 1), (some (8, false)), false⟩,
 ⟨(some 10), .move (.tmp 0), (some (8, false)), false⟩,
 ⟨(some 11), .bi .len [22].toArray 3 [(.tmp 10)], (some (8, false)), false⟩,
 ⟨(some 12), .bin .geq 3 (.tmp 9) (.tmp 11), (some (8, false)), false⟩,
 ⟨(some 13), .pick (.tmp 8) (.const (.bool true)) (.tmp 12), none, false⟩]
/-- patchbay/env.at[patchbay/api.Header] -/
def ac52 : AC :=
 .seq (.region false [⟨(some 4), .alloc true 45 (.agg [(.string ⟨[].toArray⟩), (.slice none 0 0)].toArray), none, false⟩])
 (.seq (.region false [⟨(some 5), .alloc false 45 (.agg [(.string ⟨[].toArray⟩), (.slice none 0 0)].toArray), none, false⟩])
 (.seq (.seq (.region false (⟨(some 6), .move (.tmp 1), none, false⟩ :: ⟨(some 7), .bin .lss 3 (.tmp 6) (.const (.int .i64 0)), none, false⟩ :: ⟨(some 8), .move (.tmp 7), none, false⟩ :: (ac52_G1 ++ [])))
 (.cond (.tmp 13)
 (.seq (.region false [⟨(some 14), .load 2 true (.tmp 5), none, false⟩,
 ⟨none, .store 2 (.tmp 4) (.tmp 14), none, false⟩])
 (.ret))
 (.skip)))
 (.seq (.region false [⟨(some 15), .move (.tmp 0), none, false⟩,
 ⟨(some 16), .move (.tmp 1), none, false⟩,
 ⟨(some 17), .iaddr 2 (.tmp 15) (.tmp 16), none, false⟩,
 ⟨(some 18), .load 2 true (.tmp 17), none, false⟩,
 ⟨none, .store 2 (.tmp 4) (.tmp 18), none, false⟩])
 (.ret))))
theorem text52 : FnText Tryz.prog 52 [4] 19 2 ac52 [(4, some (2, true))] :=
 ⟨Tryz.call52, follows, Tryz.f52, _, Tryz.func52, rfl, rfl, by decide, by kernel_rfl, by kernel_rfl⟩


/-- patchbay/env.fields -/
def ac39 : AC :=
 .seq (.region false [⟨(some 2), .box false 31 (.tmp 0), none, false⟩,
 ⟨(some 4), .move (.const (.slice none 0 0)), none, false⟩])
 (.seq (.seq (.region false [⟨(some 5), .move (.tmp 1), none, false⟩,
 ⟨(some 6), .bin .eql 3 (.tmp 5) (.const (.int .i64 (-1))), none, false⟩])
 (.cond (.tmp 6)
 (.seq (.region false [⟨(some 7), .faddr 2 1 false (.tmp 2), none, false⟩,
 ⟨(some 8), .load 1 false (.tmp 7), none, false⟩,
 ⟨(some 4), .move (.tmp 8), none, false⟩])
 (.ret))
 (.skip)))
 (.seq (.region false [⟨(some 9), .faddr 1 1 false (.tmp 2), none, false⟩,
 ⟨(some 10), .load 1 false (.tmp 9), none, false⟩,
 ⟨(some 11), .move (.tmp 1), none, false⟩,
 ⟨(some 12), .call (.func 52) [(.tmp 10), (.tmp 11)], none, false⟩,
 ⟨(some 13), .field 1 1 false (.tmp 12), none, false⟩,
 ⟨(some 4), .move (.tmp 13), none, false⟩])
 (.ret)))
theorem text39 : FnText Tryz.prog 39 [] 14 2 ac39 [(4, none)] :=
 ⟨Tryz.call39, follows, Tryz.f39, _, Tryz.func39, rfl, rfl, by decide, by kernel_rfl, by kernel_rfl⟩

def ac38_G1 : List AOper :=
 [⟨(some 9), .move (.tmp 1), (some (8, false)), false⟩,
 ⟨(some 10), .move (.tmp 0), (some (8, false)), false⟩,
 ⟨(some 11), .bi .len [23].toArray 3 [(.tmp 10)], (some (8, false)), false⟩,
 ⟨(some 12), .bin .geq 3 (.tmp 9) (.tmp 11), (some (8, false)), false⟩,
 ⟨(some 13), .pick (.tmp 8) (.const (.bool true)) (.tmp 12), none, false⟩]
/-- patchbay/env.at[patchbay/api.Field] -/
def ac38 : AC :=
 .seq (.region false [⟨(some 4), .alloc true 73 (.agg [(.string ⟨[].toArray⟩), (.int .i64 0)].toArray), none, false⟩])
 (.seq (.region false [⟨(some 5), .alloc false 73 (.agg [(.string ⟨[].toArray⟩), (.int .i64 0)].toArray), none, false⟩])
 (.seq (.seq (.region false (⟨(some 6), .move (.tmp 1), none, false⟩ :: ⟨(some 7), .bin .lss 3 (.tmp 6) (.const (.int .i64 0)), none, false⟩ :: ⟨(some 8), .move (.tmp 7), none, false⟩ :: (ac38_G1 ++ [])))
 (.cond (.tmp 13)
 (.seq (.region false [⟨(some 14), .load 2 true (.tmp 5), none, false⟩,
 ⟨none, .store 2 (.tmp 4) (.tmp 14), none, false⟩])
 (.ret))
 (.skip)))
 (.seq (.region false [⟨(some 15), .move (.tmp 0), none, false⟩,
 ⟨(some 16), .move (.tmp 1), none, false⟩,
 ⟨(some 17), .iaddr 2 (.tmp 15) (.tmp 16), none, false⟩,
 ⟨(some 18), .load 2 true (.tmp 17), none, false⟩,
 ⟨none, .store 2 (.tmp 4) (.tmp 18), none, false⟩])
 (.ret))))
theorem text38 : FnText Tryz.prog 38 [4] 19 2 ac38 [(4, some (2, true))] :=
 ⟨Tryz.call38, follows, Tryz.f38, _, Tryz.func38, rfl, rfl, by decide, by kernel_rfl, by kernel_rfl⟩

def ac53_G1 : List AOper :=
 [⟨(some 14), .move (.tmp 4), (some (13, false)), false⟩,
 ⟨(some 15), .bin .gtr 3 (.tmp 14) (.const (.int .i64 32)), (some (13, false)), false⟩,
 ⟨(some 16), .pick (.tmp 13) (.const (.bool true)) (.tmp 15), none, false⟩]
def ac53_L1 : AC :=
 .seq (.region false [⟨(some 8), .bin .lss 3 (.tmp 7) (.tmp 6), none, false⟩])
 (.seq (.cond (.tmp 8)
 (.skip)
 (.exit 0))
 (.seq (.block 1 (.seq (.region false [⟨(some 9), .iaddr 1 (.tmp 5) (.tmp 7), none, false⟩,
 ⟨(some 10), .load 1 false (.tmp 9), none, false⟩,
 ⟨(some 4), .move (.tmp 10), none, false⟩])
 (.seq (.region false (⟨(some 11), .move (.tmp 4), none, false⟩ :: ⟨(some 12), .bin .lss 3 (.tmp 11) (.const (.int .i64 1)), none, false⟩ :: ⟨(some 13), .move (.tmp 12), none, false⟩ :: (ac53_G1 ++ [])))
 (.cond (.tmp 16)
 (.seq (.region false [⟨(some 2), .move (.const (.bool false)), none, false⟩])
 (.ret))
 (.skip)))))
 (.region false [⟨(some 17), .bin .add 3 (.tmp 7) (.const (.int .i64 1)), none, false⟩,
 ⟨(some 7), .move (.tmp 17), none, false⟩])))
/-- patchbay/bitvec.valid -/
def ac53 : AC :=
 .seq (.region false [⟨(some 2), .move (.const (.bool false)), none, false⟩])
 (.seq (.seq (.region false [⟨(some 5), .move (.tmp 0), none, false⟩,
 ⟨(some 6), .bi .len [29].toArray 3 [(.tmp 5)], none, false⟩,
 ⟨(some 7), .move (.const (.int .i64 0)), none, false⟩])
 (.block 0 (.loop ac53_L1)))
 (.seq (.region false [⟨(some 2), .move (.const (.bool true)), none, false⟩])
 (.ret)))
theorem text53 : FnText Tryz.prog 53 [] 18 1 ac53 [(2, none)] :=
 ⟨Tryz.call53, follows, Tryz.f53, _, Tryz.func53, rfl, rfl, by decide, by kernel_rfl, by kernel_rfl⟩


/-- patchbay/bitvec.Mask -/
def ac40 : AC :=
 .seq (.region false [⟨(some 2), .move (.const (.int .u32 0)), none, false⟩])
 (.seq (.seq (.region false [⟨(some 3), .move (.tmp 0), none, false⟩,
 ⟨(some 4), .bslice false 3 1 false [(.tmp 3)], none, false⟩,
 ⟨(some 5), .call (.func 53) [(.tmp 4)], none, false⟩,
 ⟨(some 6), .un .not (.tmp 5), none, false⟩])
 (.cond (.tmp 6)
 (.seq (.region false [⟨(some 2), .move (.const (.int .u32 0)), none, false⟩])
 (.ret))
 (.skip)))
 (.seq (.region false [⟨(some 7), .move (.tmp 0), none, false⟩,
 ⟨(some 8), .bin .sub 3 (.const (.int .i64 32)) (.tmp 7), none, false⟩,
 ⟨(some 9), .bin .shr 96 (.const (.int .u32 4294967295)) (.tmp 8), none, false⟩,
 ⟨(some 2), .move (.tmp 9), none, false⟩])
 (.ret)))
theorem text40 : FnText Tryz.prog 40 [] 10 1 ac40 [(2, none)] :=
 ⟨Tryz.call40, follows, Tryz.f40, _, Tryz.func40, rfl, rfl, by decide, by kernel_rfl, by kernel_rfl⟩


/-- patchbay/env.Width -/
def ac27 : AC :=
 .seq (.region false [⟨(some 2), .box false 31 (.tmp 0), none, false⟩,
 ⟨(some 3), .box false 33 (.tmp 1), none, false⟩,
 ⟨(some 4), .move (.const (.int .i64 0)), none, false⟩])
 (.seq (.region true [⟨(some 6), .load 9 true (.tmp 2), none, false⟩,
 ⟨(some 7), .faddr 0 1 false (.tmp 3), none, false⟩,
 ⟨(some 8), .load 1 false (.tmp 7), none, false⟩,
 ⟨(some 9), .call (.func 39) [(.tmp 6), (.tmp 8)], none, false⟩,
 ⟨(some 10), .faddr 1 1 false (.tmp 3), none, false⟩,
 ⟨(some 11), .load 1 false (.tmp 10), none, false⟩,
 ⟨(some 12), .call (.func 38) [(.tmp 9), (.tmp 11)], none, false⟩,
 ⟨(some 13), .field 1 1 false (.tmp 12), none, false⟩,
 ⟨(some 5), .move (.tmp 13), none, false⟩])
 (.seq (.seq (.region false [⟨(some 14), .move (.tmp 5), none, false⟩,
 ⟨(some 15), .call (.func 40) [(.tmp 14)], none, false⟩,
 ⟨(some 16), .bin .eql 96 (.tmp 15) (.const (.int .u32 0)), none, false⟩])
 (.cond (.tmp 16)
 (.seq (.region false [⟨(some 4), .move (.const (.int .i64 0)), none, false⟩])
 (.ret))
 (.skip)))
 (.seq (.region false [⟨(some 17), .move (.tmp 5), none, false⟩,
 ⟨(some 4), .move (.tmp 17), none, false⟩])
 (.ret))))
theorem text27 : FnText Tryz.prog 27 [] 18 2 ac27 [(4, none)] :=
 ⟨Tryz.call27, follows, Tryz.f27, _, Tryz.func27, rfl, rfl, by decide, by kernel_rfl, by kernel_rfl⟩

def ac14_G1 : List AOper :=
 [⟨(some 10), .move (.tmp 1), (some (9, false)), false⟩,
 ⟨(some 11), .load 9 true (.tmp 2), (some (9, false)), false⟩,
 ⟨(some 12), .call (.func 24) [(.tmp 11), (.const (.int .i64 3))], (some (9, false)), false⟩,
 ⟨(some 13), .bin .geq 3 (.tmp 10) (.tmp 12), (some (9, false)), false⟩,
 ⟨(some 14), .pick (.tmp 9) (.const (.bool true)) (.tmp 13), none, false⟩]
def ac14_L1 : AC :=
 .seq (.region false [⟨(some 34), .bin .lss 3 (.tmp 33) (.tmp 32), none, false⟩])
 (.seq (.cond (.tmp 34)
 (.skip)
 (.exit 0))
 (.seq (.block 1 (.seq (.region false [⟨(some 35), .move (.tmp 33), none, false⟩,
 ⟨(some 36), .iaddr 2 (.tmp 31) (.tmp 33), none, false⟩,
 ⟨(some 37), .load 2 true (.tmp 36), none, false⟩,
 ⟨(some 6), .alloc true 45 (.agg [(.string ⟨[].toArray⟩), (.slice none 0 0)].toArray), none, false⟩,
 ⟨(some 5), .move (.tmp 35), none, false⟩,
 ⟨none, .store 2 (.tmp 6) (.tmp 37), none, false⟩])
 (.seq (.seq (.region false [⟨(some 38), .move (.tmp 1), none, false⟩,
 ⟨(some 39), .faddr 1 1 false (.tmp 6), none, false⟩,
 ⟨(some 40), .load 1 false (.tmp 39), none, false⟩,
 ⟨(some 41), .bi .len [23].toArray 3 [(.tmp 40)], none, false⟩,
 ⟨(some 42), .bin .lss 3 (.tmp 38) (.tmp 41), none, false⟩])
 (.cond (.tmp 42)
 (.seq (.region false [⟨(some 43), .load 9 true (.tmp 2), none, false⟩,
 ⟨(some 44), .move (.tmp 5), none, false⟩,
 ⟨(some 45), .move (.tmp 1), none, false⟩,
 ⟨(some 46), .build [(.int .i64 0), (.int .i64 0)] [(0, 1, (.tmp 44)), (1, 1, (.tmp 45))], none, false⟩,
 ⟨(some 47), .call (.func 27) [(.tmp 43), (.tmp 46)], none, false⟩,
 ⟨(some 4), .move (.tmp 47), none, false⟩])
 (.ret))
 (.skip)))
 (.region false [⟨(some 48), .move (.tmp 1), none, false⟩,
 ⟨(some 49), .faddr 1 1 false (.tmp 6), none, false⟩,
 ⟨(some 50), .load 1 false (.tmp 49), none, false⟩,
 ⟨(some 51), .bi .len [23].toArray 3 [(.tmp 50)], none, false⟩,
 ⟨(some 52), .bin .sub 3 (.tmp 48) (.tmp 51), none, false⟩,
 ⟨(some 1), .move (.tmp 52), none, false⟩]))))
 (.region false [⟨(some 53), .bin .add 3 (.tmp 33) (.const (.int .i64 1)), none, false⟩,
 ⟨(some 33), .move (.tmp 53), none, false⟩])))
/-- patchbay/access.CellWidth -/
def ac14 : AC :=
 .seq (.region false [⟨(some 2), .box false 31 (.tmp 0), none, false⟩,
 ⟨(some 4), .move (.const (.int .i64 0)), none, false⟩])
 (.seq (.seq (.region false (⟨(some 7), .move (.tmp 1), none, false⟩ :: ⟨(some 8), .bin .lss 3 (.tmp 7) (.const (.int .i64 0)), none, false⟩ :: ⟨(some 9), .move (.tmp 8), none, false⟩ :: (ac14_G1 ++ [])))
 (.cond (.tmp 14)
 (.seq (.region false [⟨(some 4), .move (.const (.int .i64 0)), none, false⟩])
 (.ret))
 (.skip)))
 (.seq (.seq (.region false [⟨(some 15), .move (.tmp 1), none, false⟩,
 ⟨(some 16), .load 9 true (.tmp 2), none, false⟩,
 ⟨(some 17), .call (.func 24) [(.tmp 16), (.const (.int .i64 2))], none, false⟩,
 ⟨(some 18), .bin .geq 3 (.tmp 15) (.tmp 17), none, false⟩])
 (.cond (.tmp 18)
 (.seq (.region true [⟨(some 19), .load 9 true (.tmp 2), none, false⟩,
 ⟨(some 20), .move (.tmp 1), none, false⟩,
 ⟨(some 21), .load 9 true (.tmp 2), none, false⟩,
 ⟨(some 22), .call (.func 24) [(.tmp 21), (.const (.int .i64 2))], none, false⟩,
 ⟨(some 23), .bin .sub 3 (.tmp 20) (.tmp 22), none, false⟩,
 ⟨(some 24), .build [(.int .i64 0), (.int .i64 0)] [(0, 1, (.const (.int .i64 (-1)))), (1, 1, (.tmp 23))], none, false⟩,
 ⟨(some 25), .call (.func 27) [(.tmp 19), (.tmp 24)], none, false⟩,
 ⟨(some 4), .move (.tmp 25), none, false⟩])
 (.ret))
 (.skip)))
 (.seq (.seq (.region false [⟨(some 26), .move (.tmp 1), none, false⟩,
 ⟨(some 27), .load 9 true (.tmp 2), none, false⟩,
 ⟨(some 28), .call (.func 24) [(.tmp 27), (.const (.int .i64 1))], none, false⟩,
 ⟨(some 29), .bin .geq 3 (.tmp 26) (.tmp 28), none, false⟩])
 (.cond (.tmp 29)
 (.seq (.region false [⟨(some 4), .move (.const (.int .i64 1)), none, false⟩])
 (.ret))
 (.skip)))
 (.seq (.seq (.region false [⟨(some 30), .faddr 1 1 false (.tmp 2), none, false⟩,
 ⟨(some 31), .load 1 false (.tmp 30), none, false⟩,
 ⟨(some 32), .bi .len [22].toArray 3 [(.tmp 31)], none, false⟩,
 ⟨(some 33), .move (.const (.int .i64 0)), none, false⟩])
 (.block 0 (.loop ac14_L1)))
 (.seq (.region false [⟨(some 4), .move (.const (.int .i64 0)), none, false⟩])
 (.ret))))))
theorem text14 : FnText Tryz.prog 14 [6] 54 2 ac14 [(4, none)] :=
 ⟨Tryz.call14, follows, Tryz.f14, _, Tryz.func14, rfl, rfl, by decide, by kernel_rfl, by kernel_rfl⟩

def ac28_G1 : List AOper :=
 [⟨(some 28), .faddr 1 1 false (.tmp 3), (some (27, false)), false⟩,
 ⟨(some 29), .load 1 false (.tmp 28), (some (27, false)), false⟩,
 ⟨(some 30), .bin .lss 3 (.tmp 29) (.const (.int .i64 0)), (some (27, false)), false⟩,
 ⟨(some 31), .pick (.tmp 27) (.const (.bool true)) (.tmp 30), none, false⟩]
def ac28_G2 : List AOper :=
 [⟨(some 33), .faddr 1 1 false (.tmp 3), (some (32, false)), false⟩,
 ⟨(some 34), .load 1 false (.tmp 33), (some (32, false)), false⟩,
 ⟨(some 35), .move (.tmp 5), (some (32, false)), false⟩,
 ⟨(some 36), .bi .len [23].toArray 3 [(.tmp 35)], (some (32, false)), false⟩,
 ⟨(some 37), .bin .geq 3 (.tmp 34) (.tmp 36), (some (32, false)), false⟩,
 ⟨(some 38), .pick (.tmp 32) (.const (.bool true)) (.tmp 37), none, false⟩]
def ac28_G3 : List AOper :=
 [⟨(some 40), .move (.tmp 5), (some (39, false)), false⟩,
 ⟨(some 41), .faddr 1 1 false (.tmp 3), (some (39, false)), false⟩,
 ⟨(some 42), .load 1 false (.tmp 41), (some (39, false)), false⟩,
 ⟨(some 43), .iaddr 2 (.tmp 40) (.tmp 42), (some (39, false)), false⟩,
 ⟨(some 44), .faddr 1 1 false (.tmp 43), (some (39, false)), false⟩,
 ⟨(some 45), .load 1 false (.tmp 44), (some (39, false)), false⟩,
 ⟨(some 46), .bin .lss 3 (.tmp 45) (.const (.int .i64 1)), (some (39, false)), false⟩,
 ⟨(some 47), .pick (.tmp 39) (.const (.bool true)) (.tmp 46), none, false⟩]
def ac28_G4 : List AOper :=
 [⟨(some 49), .move (.tmp 5), (some (48, false)), false⟩,
 ⟨(some 50), .faddr 1 1 false (.tmp 3), (some (48, false)), false⟩,
 ⟨(some 51), .load 1 false (.tmp 50), (some (48, false)), false⟩,
 ⟨(some 52), .iaddr 2 (.tmp 49) (.tmp 51), (some (48, false)), false⟩,
 ⟨(some 53), .faddr 1 1 false (.tmp 52), (some (48, false)), false⟩,
 ⟨(some 54), .load 1 false (.tmp 53), (some (48, false)), false⟩,
 ⟨(some 55), .bin .gtr 3 (.tmp 54) (.const (.int .i64 32)), (some (48, false)), false⟩,
 ⟨(some 56), .pick (.tmp 48) (.const (.bool true)) (.tmp 55), none, false⟩]
/-- patchbay/patchbayref12.Width -/
def ac28 : AC :=
 .seq (.region false [⟨(some 2), .box false 31 (.tmp 0), none, false⟩,
 ⟨(some 3), .box false 33 (.tmp 1), none, false⟩,
 ⟨(some 4), .move (.const (.int .i64 0)), none, false⟩])
 (.seq (.region false [⟨(some 6), .faddr 2 1 false (.tmp 2), none, false⟩,
 ⟨(some 7), .load 1 false (.tmp 6), none, false⟩,
 ⟨(some 5), .move (.tmp 7), none, false⟩])
 (.seq (.seq (.region false [⟨(some 8), .faddr 0 1 false (.tmp 3), none, false⟩,
 ⟨(some 9), .load 1 false (.tmp 8), none, false⟩,
 ⟨(some 10), .bin .geq 3 (.tmp 9) (.const (.int .i64 0)), none, false⟩])
 (.cond (.tmp 10)
 (.seq (.seq (.region false [⟨(some 11), .faddr 0 1 false (.tmp 3), none, false⟩,
 ⟨(some 12), .load 1 false (.tmp 11), none, false⟩,
 ⟨(some 13), .faddr 1 1 false (.tmp 2), none, false⟩,
 ⟨(some 14), .load 1 false (.tmp 13), none, false⟩,
 ⟨(some 15), .bi .len [22].toArray 3 [(.tmp 14)], none, false⟩,
 ⟨(some 16), .bin .geq 3 (.tmp 12) (.tmp 15), none, false⟩])
 (.cond (.tmp 16)
 (.seq (.region false [⟨(some 4), .move (.const (.int .i64 0)), none, false⟩])
 (.ret))
 (.skip)))
 (.region false [⟨(some 17), .faddr 1 1 false (.tmp 2), none, false⟩,
 ⟨(some 18), .load 1 false (.tmp 17), none, false⟩,
 ⟨(some 19), .faddr 0 1 false (.tmp 3), none, false⟩,
 ⟨(some 20), .load 1 false (.tmp 19), none, false⟩,
 ⟨(some 21), .iaddr 2 (.tmp 18) (.tmp 20), none, false⟩,
 ⟨(some 22), .faddr 1 1 false (.tmp 21), none, false⟩,
 ⟨(some 23), .load 1 false (.tmp 22), none, false⟩,
 ⟨(some 5), .move (.tmp 23), none, false⟩]))
 (.skip)))
 (.seq (.seq (.region false (⟨(some 24), .faddr 0 1 false (.tmp 3), none, false⟩ :: ⟨(some 25), .load 1 false (.tmp 24), none, false⟩ :: ⟨(some 26), .bin .lss 3 (.tmp 25) (.const (.int .i64 (-1))), none, false⟩ :: ⟨(some 27), .move (.tmp 26), none, false⟩ :: (ac28_G1 ++ (⟨(some 32), .move (.tmp 31), none, false⟩ :: (ac28_G2 ++ (⟨(some 39), .move (.tmp 38), none, false⟩ :: (ac28_G3 ++ (⟨(some 48), .move (.tmp 47), none, false⟩ :: (ac28_G4 ++ [])))))))))
 (.cond (.tmp 56)
 (.seq (.region false [⟨(some 4), .move (.const (.int .i64 0)), none, false⟩])
 (.ret))
 (.skip)))
 (.seq (.region false [⟨(some 57), .move (.tmp 5), none, false⟩,
 ⟨(some 58), .faddr 1 1 false (.tmp 3), none, false⟩,
 ⟨(some 59), .load 1 false (.tmp 58), none, false⟩,
 ⟨(some 60), .iaddr 2 (.tmp 57) (.tmp 59), none, false⟩,
 ⟨(some 61), .faddr 1 1 false (.tmp 60), none, false⟩,
 ⟨(some 62), .load 1 false (.tmp 61), none, false⟩,
 ⟨(some 4), .move (.tmp 62), none, false⟩])
 (.ret)))))
theorem text28 : FnText Tryz.prog 28 [] 63 2 ac28 [(4, none)] :=
 ⟨Tryz.call28, follows, Tryz.f28, _, Tryz.func28, rfl, rfl, by decide, by kernel_rfl, by kernel_rfl⟩

def ac15_L2 : AC :=
 .seq (.seq (.region false [⟨(some 22), .move (.tmp 6), none, false⟩,
 ⟨(some 23), .faddr 1 1 false (.tmp 2), none, false⟩,
 ⟨(some 24), .load 1 false (.tmp 23), none, false⟩,
 ⟨(some 25), .move (.tmp 5), none, false⟩,
 ⟨(some 26), .iaddr 2 (.tmp 24) (.tmp 25), none, false⟩,
 ⟨(some 27), .faddr 1 1 false (.tmp 26), none, false⟩,
 ⟨(some 28), .load 1 false (.tmp 27), none, false⟩,
 ⟨(some 29), .bi .len [23].toArray 3 [(.tmp 28)], none, false⟩,
 ⟨(some 30), .bin .lss 3 (.tmp 22) (.tmp 29), none, false⟩])
 (.cond (.tmp 30)
 (.skip)
 (.exit 2)))
 (.seq (.block 3 (.seq (.region false [⟨(some 33), .move (.tmp 5), none, false⟩,
 ⟨(some 34), .move (.tmp 6), none, false⟩,
 ⟨(some 35), .build [(.int .i64 0), (.int .i64 0)] [(0, 1, (.tmp 33)), (1, 1, (.tmp 34))], none, false⟩,
 ⟨(some 7), .alloc true 33 (.agg [(.int .i64 0), (.int .i64 0)].toArray), none, false⟩,
 ⟨none, .store 2 (.tmp 7) (.tmp 35), none, false⟩])
 (.seq (.region false [⟨(some 36), .move (.tmp 1), none, false⟩,
 ⟨(some 37), .load 9 true (.tmp 2), none, false⟩,
 ⟨(some 38), .load 2 true (.tmp 7), none, false⟩,
 ⟨(some 39), .call (.func 9) [(.tmp 37), (.tmp 38)], none, false⟩,
 ⟨(some 40), .bin .eql 3 (.tmp 36) (.tmp 39), none, false⟩])
 (.cond (.tmp 40)
 (.seq (.region false [⟨(some 41), .load 9 true (.tmp 2), none, false⟩,
 ⟨(some 42), .load 2 true (.tmp 7), none, false⟩,
 ⟨(some 43), .call (.func 28) [(.tmp 41), (.tmp 42)], none, false⟩,
 ⟨(some 4), .move (.tmp 43), none, false⟩])
 (.ret))
 (.skip)))))
 (.region false [⟨(some 31), .move (.tmp 6), none, false⟩,
 ⟨(some 32), .bin .add 3 (.tmp 31) (.const (.int .i64 1)), none, false⟩,
 ⟨(some 6), .move (.tmp 32), none, false⟩]))
def ac15_L1 : AC :=
 .seq (.seq (.region false [⟨(some 10), .move (.tmp 5), none, false⟩,
 ⟨(some 11), .faddr 1 1 false (.tmp 2), none, false⟩,
 ⟨(some 12), .load 1 false (.tmp 11), none, false⟩,
 ⟨(some 13), .bi .len [22].toArray 3 [(.tmp 12)], none, false⟩,
 ⟨(some 14), .bin .lss 3 (.tmp 10) (.tmp 13), none, false⟩])
 (.cond (.tmp 14)
 (.skip)
 (.exit 0)))
 (.seq (.block 1 (.seq (.seq (.region false [⟨(some 17), .move (.tmp 1), none, false⟩,
 ⟨(some 18), .load 9 true (.tmp 2), none, false⟩,
 ⟨(some 19), .move (.tmp 5), none, false⟩,
 ⟨(some 20), .call (.func 11) [(.tmp 18), (.tmp 19)], none, false⟩,
 ⟨(some 21), .bin .eql 3 (.tmp 17) (.tmp 20), none, false⟩])
 (.cond (.tmp 21)
 (.seq (.region false [⟨(some 4), .move (.const (.int .i64 1)), none, false⟩])
 (.ret))
 (.skip)))
 (.seq (.region false [⟨(some 6), .move (.const (.int .i64 0)), none, false⟩])
 (.block 2 (.loop ac15_L2)))))
 (.region false [⟨(some 15), .move (.tmp 5), none, false⟩,
 ⟨(some 16), .bin .add 3 (.tmp 15) (.const (.int .i64 1)), none, false⟩,
 ⟨(some 5), .move (.tmp 16), none, false⟩]))
def ac15_L3 : AC :=
 .seq (.seq (.region false [⟨(some 44), .move (.tmp 8), none, false⟩,
 ⟨(some 45), .faddr 2 1 false (.tmp 2), none, false⟩,
 ⟨(some 46), .load 1 false (.tmp 45), none, false⟩,
 ⟨(some 47), .bi .len [23].toArray 3 [(.tmp 46)], none, false⟩,
 ⟨(some 48), .bin .lss 3 (.tmp 44) (.tmp 47), none, false⟩])
 (.cond (.tmp 48)
 (.skip)
 (.exit 4)))
 (.seq (.block 5 (.seq (.region false [⟨(some 51), .move (.tmp 8), none, false⟩,
 ⟨(some 52), .build [(.int .i64 0), (.int .i64 0)] [(0, 1, (.const (.int .i64 (-1)))), (1, 1, (.tmp 51))], none, false⟩,
 ⟨(some 9), .alloc true 33 (.agg [(.int .i64 0), (.int .i64 0)].toArray), none, false⟩,
 ⟨none, .store 2 (.tmp 9) (.tmp 52), none, false⟩])
 (.seq (.region false [⟨(some 53), .move (.tmp 1), none, false⟩,
 ⟨(some 54), .load 9 true (.tmp 2), none, false⟩,
 ⟨(some 55), .load 2 true (.tmp 9), none, false⟩,
 ⟨(some 56), .call (.func 9) [(.tmp 54), (.tmp 55)], none, false⟩,
 ⟨(some 57), .bin .eql 3 (.tmp 53) (.tmp 56), none, false⟩])
 (.cond (.tmp 57)
 (.seq (.region false [⟨(some 58), .load 9 true (.tmp 2), none, false⟩,
 ⟨(some 59), .load 2 true (.tmp 9), none, false⟩,
 ⟨(some 60), .call (.func 28) [(.tmp 58), (.tmp 59)], none, false⟩,
 ⟨(some 4), .move (.tmp 60), none, false⟩])
 (.ret))
 (.skip)))))
 (.region false [⟨(some 49), .move (.tmp 8), none, false⟩,
 ⟨(some 50), .bin .add 3 (.tmp 49) (.const (.int .i64 1)), none, false⟩,
 ⟨(some 8), .move (.tmp 50), none, false⟩]))
/-- patchbay/patchbayref31.CellWidth -/
def ac15 : AC :=
 .seq (.region false [⟨(some 2), .box false 31 (.tmp 0), none, false⟩,
 ⟨(some 4), .move (.const (.int .i64 0)), none, false⟩])
 (.seq (.seq (.region false [⟨(some 5), .move (.const (.int .i64 0)), none, false⟩])
 (.block 0 (.loop ac15_L1)))
 (.seq (.seq (.region false [⟨(some 8), .move (.const (.int .i64 0)), none, false⟩])
 (.block 4 (.loop ac15_L3)))
 (.seq (.region false [⟨(some 4), .move (.const (.int .i64 0)), none, false⟩])
 (.ret))))
theorem text15 : FnText Tryz.prog 15 [7, 9] 61 2 ac15 [(4, none)] :=
 ⟨Tryz.call15, follows, Tryz.f15, _, Tryz.func15, rfl, rfl, by decide, by kernel_rfl, by kernel_rfl⟩

def ac3_G1 : List AOper :=
 [⟨(some 14), .load 9 true (.tmp 2), (some (13, true)), false⟩,
 ⟨(some 15), .faddr 0 2 true (.tmp 3), (some (13, true)), false⟩,
 ⟨(some 16), .load 2 true (.tmp 15), (some (13, true)), false⟩,
 ⟨(some 17), .call (.func 8) [(.tmp 14), (.tmp 16)], (some (13, true)), false⟩,
 ⟨(some 18), .load 9 true (.tmp 2), (some (13, true)), false⟩,
 ⟨(some 19), .faddr 0 2 true (.tmp 3), (some (13, true)), false⟩,
 ⟨(some 20), .load 2 true (.tmp 19), (some (13, true)), false⟩,
 ⟨(some 21), .call (.func 9) [(.tmp 18), (.tmp 20)], (some (13, true)), false⟩,
 ⟨(some 22), .bin .eql 3 (.tmp 17) (.tmp 21), (some (13, true)), false⟩,
 ⟨(some 23), .pick (.tmp 13) (.tmp 22) (.const (.bool false)), none, false⟩]
def ac3_G2 : List AOper :=
 [⟨(some 25), .load 9 true (.tmp 2), (some (24, true)), false⟩,
 ⟨(some 26), .faddr 2 1 false (.tmp 3), (some (24, true)), false⟩,
 ⟨(some 27), .load 1 false (.tmp 26), (some (24, true)), false⟩,
 ⟨(some 28), .call (.func 10) [(.tmp 25), (.tmp 27)], (some (24, true)), false⟩,
 ⟨(some 29), .load 9 true (.tmp 2), (some (24, true)), false⟩,
 ⟨(some 30), .faddr 2 1 false (.tmp 3), (some (24, true)), false⟩,
 ⟨(some 31), .load 1 false (.tmp 30), (some (24, true)), false⟩,
 ⟨(some 32), .call (.func 11) [(.tmp 29), (.tmp 31)], (some (24, true)), false⟩,
 ⟨(some 33), .bin .eql 3 (.tmp 28) (.tmp 32), (some (24, true)), false⟩,
 ⟨(some 34), .pick (.tmp 24) (.tmp 33) (.const (.bool false)), none, false⟩]
def ac3_G3 : List AOper :=
 [⟨(some 36), .load 9 true (.tmp 2), (some (35, true)), false⟩,
 ⟨(some 37), .faddr 2 1 false (.tmp 3), (some (35, true)), false⟩,
 ⟨(some 38), .load 1 false (.tmp 37), (some (35, true)), false⟩,
 ⟨(some 39), .call (.func 12) [(.tmp 36), (.tmp 38)], (some (35, true)), false⟩,
 ⟨(some 40), .load 9 true (.tmp 2), (some (35, true)), false⟩,
 ⟨(some 41), .faddr 2 1 false (.tmp 3), (some (35, true)), false⟩,
 ⟨(some 42), .load 1 false (.tmp 41), (some (35, true)), false⟩,
 ⟨(some 43), .call (.func 13) [(.tmp 40), (.tmp 42)], (some (35, true)), false⟩,
 ⟨(some 44), .bin .eql 3 (.tmp 39) (.tmp 43), (some (35, true)), false⟩,
 ⟨(some 45), .pick (.tmp 35) (.tmp 44) (.const (.bool false)), none, false⟩]
def ac3_G4 : List AOper :=
 [⟨(some 47), .load 9 true (.tmp 2), (some (46, true)), false⟩,
 ⟨(some 48), .faddr 2 1 false (.tmp 3), (some (46, true)), false⟩,
 ⟨(some 49), .load 1 false (.tmp 48), (some (46, true)), false⟩,
 ⟨(some 50), .call (.func 14) [(.tmp 47), (.tmp 49)], (some (46, true)), false⟩,
 ⟨(some 51), .load 9 true (.tmp 2), (some (46, true)), false⟩,
 ⟨(some 52), .faddr 2 1 false (.tmp 3), (some (46, true)), false⟩,
 ⟨(some 53), .load 1 false (.tmp 52), (some (46, true)), false⟩,
 ⟨(some 54), .call (.func 15) [(.tmp 51), (.tmp 53)], (some (46, true)), false⟩,
 ⟨(some 55), .bin .eql 3 (.tmp 50) (.tmp 54), (some (46, true)), false⟩,
 ⟨(some 56), .pick (.tmp 46) (.tmp 55) (.const (.bool false)), none, false⟩]
def ac3_G5 : List AOper :=
 [⟨(some 58), .call (.func 5) [], (some (57, true)), false⟩,
 ⟨(some 59), .pick (.tmp 57) (.tmp 58) (.const (.bool false)), none, false⟩]
/-- patchbay/patchbaylaw31.AccessCells -/
def ac3 : AC :=
 .seq (.region false [⟨(some 2), .box false 31 (.tmp 0), none, false⟩,
 ⟨(some 3), .box false 35 (.tmp 1), none, false⟩,
 ⟨(some 4), .move (.const (.bool false)), none, false⟩])
 (.seq (.seq (.region false [⟨(some 5), .load 9 true (.tmp 2), none, false⟩,
 ⟨(some 6), .call (.func 4) [(.tmp 5)], none, false⟩])
 (.cond (.tmp 6)
 (.seq (.region false [⟨(some 7), .call (.func 5) [], none, false⟩,
 ⟨(some 4), .move (.tmp 7), none, false⟩])
 (.ret))
 (.skip)))
 (.seq (.region true (⟨(some 8), .load 9 true (.tmp 2), none, false⟩ :: ⟨(some 9), .call (.func 6) [(.tmp 8)], none, false⟩ :: ⟨(some 10), .load 9 true (.tmp 2), none, false⟩ :: ⟨(some 11), .call (.func 7) [(.tmp 10)], none, false⟩ :: ⟨(some 12), .bin .eql 3 (.tmp 9) (.tmp 11), none, false⟩ :: ⟨(some 13), .move (.tmp 12), none, false⟩ :: (ac3_G1 ++ (⟨(some 24), .move (.tmp 23), none, false⟩ :: (ac3_G2 ++ (⟨(some 35), .move (.tmp 34), none, false⟩ :: (ac3_G3 ++ (⟨(some 46), .move (.tmp 45), none, false⟩ :: (ac3_G4 ++ (⟨(some 57), .move (.tmp 56), none, false⟩ :: (ac3_G5 ++ [⟨(some 4), .move (.tmp 59), none, false⟩])))))))))))
 (.ret)))
theorem text3 : FnText Tryz.prog 3 [] 60 2 ac3 [(4, none)] :=
 ⟨Tryz.call3, follows, Tryz.f3, _, Tryz.func3, rfl, rfl, by decide, by kernel_rfl, by kernel_rfl⟩


/-- patchbay/patchbaylaw31.example -/
def ac20 : AC :=
 .seq (.region false [⟨(some 0), .alloc true 31 (.agg [(.string ⟨[].toArray⟩), (.slice none 0 0), (.slice none 0 0), (.slice none 0 0), (.slice none 0 0), (.slice none 0 0), (.slice none 0 0), (.slice none 0 0), (.slice none 0 0)].toArray), none, false⟩])
 (.seq (.region false [⟨(some 4), .call (.func 29) [], none, false⟩,
 ⟨(some 1), .alloc true 31 (.agg [(.string ⟨[].toArray⟩), (.slice none 0 0), (.slice none 0 0), (.slice none 0 0), (.slice none 0 0), (.slice none 0 0), (.slice none 0 0), (.slice none 0 0), (.slice none 0 0)].toArray), none, false⟩,
 ⟨none, .store 9 (.tmp 1) (.tmp 4), none, false⟩])
 (.seq (.region false [⟨(some 5), .build [(.string ⟨[].toArray⟩), (.int .i64 0)] [(0, 1, (.const (.string ⟨[97].toArray⟩))), (1, 1, (.const (.int .i64 8)))], none, false⟩,
 ⟨(some 2), .alloc true 73 (.agg [(.string ⟨[].toArray⟩), (.int .i64 0)].toArray), none, false⟩,
 ⟨none, .store 2 (.tmp 2) (.tmp 5), none, false⟩])
 (.seq (.region false [⟨(some 6), .load 2 true (.tmp 2), none, false⟩,
 ⟨(some 7), .bslice false 73 2 false [(.tmp 6)], none, false⟩,
 ⟨(some 8), .build [(.string ⟨[].toArray⟩), (.slice none 0 0)] [(0, 1, (.const (.string ⟨[103].toArray⟩))), (1, 1, (.tmp 7))], none, false⟩,
 ⟨(some 9), .load 2 true (.tmp 2), none, false⟩,
 ⟨(some 10), .build [(.string ⟨[].toArray⟩), (.int .i64 0)] [(0, 1, (.const (.string ⟨[98].toArray⟩))), (1, 1, (.const (.int .i64 4)))], none, false⟩,
 ⟨(some 11), .bslice false 73 2 false [(.tmp 9), (.tmp 10)], none, false⟩,
 ⟨(some 12), .build [(.string ⟨[].toArray⟩), (.slice none 0 0)] [(0, 1, (.const (.string ⟨[104].toArray⟩))), (1, 1, (.tmp 11))], none, false⟩,
 ⟨(some 13), .bslice false 45 2 false [(.tmp 8), (.tmp 12)], none, false⟩,
 ⟨(some 14), .faddr 1 1 false (.tmp 1), none, false⟩,
 ⟨none, .store 1 (.tmp 14) (.tmp 13), none, false⟩])
 (.seq (.region false [⟨(some 15), .build [(.string ⟨[].toArray⟩), (.int .i64 0), (.int .i64 0)] [(0, 1, (.const (.string ⟨[114].toArray⟩))), (1, 1, (.const (.int .i64 8))), (2, 1, (.const (.int .i64 1)))], none, false⟩,
 ⟨(some 16), .bslice false 77 3 false [(.tmp 15)], none, false⟩,
 ⟨(some 17), .faddr 3 1 false (.tmp 1), none, false⟩,
 ⟨none, .store 1 (.tmp 17) (.tmp 16), none, false⟩])
 (.seq (.region false [⟨(some 18), .build [(.int .i64 0), (.int .i64 0)] [(0, 1, (.const (.int .i64 1))), (1, 1, (.const (.int .i64 1)))], none, false⟩,
 ⟨(some 19), .build [(.int .i64 0), (.int .i64 0), (.int .i64 0)] [(0, 1, (.const (.int .i64 1))), (1, 1, (.const (.int .i64 3))), (2, 1, (.const (.int .i64 4)))], none, false⟩,
 ⟨(some 20), .bslice false 62 3 false [(.tmp 19)], none, false⟩,
 ⟨(some 21), .build [(.int .i64 0), (.int .i64 0), (.int .i64 0), (.int .i64 0), (.int .i64 0), (.slice none 0 0), (.slice none 0 0)] [(0, 1, (.const (.int .i64 1))), (1, 2, (.tmp 18)), (6, 1, (.tmp 20))], none, false⟩,
 ⟨(some 3), .alloc true 75 (.agg [(.int .i64 0), (.int .i64 0), (.int .i64 0), (.int .i64 0), (.int .i64 0), (.slice none 0 0), (.slice none 0 0)].toArray), none, false⟩,
 ⟨none, .store 7 (.tmp 3) (.tmp 21), none, false⟩])
 (.seq (.region false [⟨(some 22), .load 7 true (.tmp 3), none, false⟩,
 ⟨(some 23), .bslice false 75 7 false [(.tmp 22)], none, false⟩,
 ⟨(some 24), .build [(.string ⟨[].toArray⟩), (.slice none 0 0), (.slice none 0 0)] [(0, 1, (.const (.string ⟨[120].toArray⟩))), (2, 1, (.tmp 23))], none, false⟩,
 ⟨(some 25), .bslice false 49 3 false [(.tmp 24)], none, false⟩,
 ⟨(some 26), .faddr 4 1 false (.tmp 1), none, false⟩,
 ⟨none, .store 1 (.tmp 26) (.tmp 25), none, false⟩])
 (.seq (.region false [⟨(some 27), .build [(.int .i64 0), (.int .i64 0)] [(0, 1, (.const (.int .i64 (-1))))], none, false⟩,
 ⟨(some 28), .build [(.int .i64 0), (.int .i64 0), (.int .i64 0)] [(0, 2, (.tmp 27)), (2, 1, (.const (.int .i64 1)))], none, false⟩,
 ⟨(some 29), .bslice false 79 3 false [(.tmp 28)], none, false⟩,
 ⟨(some 30), .bslice false 3 1 false [(.const (.int .i64 0))], none, false⟩,
 ⟨(some 31), .build [(.string ⟨[].toArray⟩), (.slice none 0 0), (.slice none 0 0), (.int .i64 0), (.slice none 0 0), (.int .i64 0)] [(0, 1, (.const (.string ⟨[116].toArray⟩))), (1, 1, (.tmp 29)), (2, 1, (.tmp 30)), (5, 1, (.const (.int .i64 1)))], none, false⟩,
 ⟨(some 32), .bslice false 55 6 false [(.tmp 31)], none, false⟩,
 ⟨(some 33), .faddr 5 1 false (.tmp 1), none, false⟩,
 ⟨none, .store 1 (.tmp 33) (.tmp 32), none, false⟩])
 (.seq (.region false [⟨(some 34), .load 9 true (.tmp 1), none, false⟩,
 ⟨none, .store 9 (.tmp 0) (.tmp 34), none, false⟩])
 (.ret)))))))))
theorem text20 : FnText Tryz.prog 20 [0, 1, 2, 3] 35 0 ac20 [(0, some (9, true))] :=
 ⟨Tryz.call20, follows, Tryz.f20, _, Tryz.func20, rfl, rfl, by decide, by kernel_rfl, by kernel_rfl⟩


/-- patchbay/patchbaylaw21.Plain -/
def ac29 : AC :=
 .seq (.region false [⟨(some 0), .alloc true 31 (.agg [(.string ⟨[].toArray⟩), (.slice none 0 0), (.slice none 0 0), (.slice none 0 0), (.slice none 0 0), (.slice none 0 0), (.slice none 0 0), (.slice none 0 0), (.slice none 0 0)].toArray), none, false⟩])
 (.seq (.region false [⟨(some 1), .build [(.string ⟨[].toArray⟩), (.int .i64 0)] [(0, 1, (.const (.string ⟨[105, 110].toArray⟩))), (1, 1, (.const (.int .i64 8)))], none, false⟩,
 ⟨(some 2), .build [(.string ⟨[].toArray⟩), (.int .i64 0)] [(0, 1, (.const (.string ⟨[111, 117, 116].toArray⟩))), (1, 1, (.const (.int .i64 8)))], none, false⟩,
 ⟨(some 3), .build [(.string ⟨[].toArray⟩), (.int .i64 0)] [(0, 1, (.const (.string ⟨[100, 114, 111, 112].toArray⟩))), (1, 1, (.const (.int .i64 1)))], none, false⟩,
 ⟨(some 4), .bslice false 73 2 false [(.tmp 1), (.tmp 2), (.tmp 3)], none, false⟩,
 ⟨(some 5), .build [(.string ⟨[].toArray⟩), (.slice none 0 0), (.bool false), (.int .i64 0), (.int .i64 0), (.slice none 0 0), (.int .i64 0)] [(0, 1, (.const (.string ⟨[115].toArray⟩))), (6, 1, (.const (.int .i64 (-1))))], none, false⟩,
 ⟨(some 6), .bslice false 59 7 false [(.tmp 5)], none, false⟩,
 ⟨(some 7), .build [(.string ⟨[].toArray⟩), (.slice none 0 0), (.slice none 0 0), (.slice none 0 0), (.slice none 0 0), (.slice none 0 0), (.slice none 0 0), (.slice none 0 0), (.slice none 0 0)] [(0, 1, (.const (.string ⟨[112].toArray⟩))), (2, 1, (.tmp 4)), (6, 1, (.tmp 6))], none, false⟩,
 ⟨none, .store 9 (.tmp 0) (.tmp 7), none, false⟩])
 (.ret))
theorem text29 : FnText Tryz.prog 29 [0] 8 0 ac29 [(0, some (9, true))] :=
 ⟨Tryz.call29, follows, Tryz.f29, _, Tryz.func29, rfl, rfl, by decide, by kernel_rfl, by kernel_rfl⟩

def ac22_L1 : AC :=
 .seq (.region false [⟨(some 40), .bin .lss 3 (.tmp 39) (.tmp 38), none, false⟩])
 (.seq (.cond (.tmp 40)
 (.skip)
 (.exit 0))
 (.seq (.block 1 (.seq (.region false [⟨(some 41), .iaddr 3 (.tmp 37) (.tmp 39), none, false⟩,
 ⟨(some 42), .load 3 true (.tmp 41), none, false⟩,
 ⟨(some 9), .alloc true 79 (.agg [(.int .i64 0), (.int .i64 0), (.int .i64 0)].toArray), none, false⟩,
 ⟨none, .store 3 (.tmp 9) (.tmp 42), none, false⟩])
 (.region false [⟨(some 43), .move (.tmp 5), none, false⟩,
 ⟨(some 44), .faddr 0 2 true (.tmp 9), none, false⟩,
 ⟨(some 45), .load 2 true (.tmp 44), none, false⟩,
 ⟨(some 46), .bslice false 33 2 false [(.tmp 45)], none, false⟩,
 ⟨(some 47), .call (.func 30) [(.tmp 43), (.tmp 46), (.const (.slice none 0 0)), (.const (.slice none 0 0))], none, false⟩])))
 (.region false [⟨(some 48), .bin .add 3 (.tmp 39) (.const (.int .i64 1)), none, false⟩,
 ⟨(some 39), .move (.tmp 48), none, false⟩])))
def ac22_L2 : AC :=
 .seq (.region false [⟨(some 53), .bin .lss 3 (.tmp 52) (.tmp 51), none, false⟩])
 (.seq (.cond (.tmp 53)
 (.skip)
 (.exit 2))
 (.seq (.block 3 (.seq (.region false [⟨(some 54), .iaddr 1 (.tmp 50) (.tmp 52), none, false⟩,
 ⟨(some 55), .load 1 false (.tmp 54), none, false⟩,
 ⟨(some 11), .move (.tmp 55), none, false⟩])
 (.region false [⟨(some 56), .move (.tmp 5), none, false⟩,
 ⟨(some 57), .load 9 true (.tmp 2), none, false⟩,
 ⟨(some 58), .move (.tmp 11), none, false⟩,
 ⟨(some 59), .call (.func 35) [(.tmp 57), (.tmp 58)], none, false⟩,
 ⟨(some 60), .extract (.tmp 59) 0, none, false⟩,
 ⟨(some 61), .extract (.tmp 59) 1, none, false⟩,
 ⟨(some 62), .extract (.tmp 59) 2, none, false⟩,
 ⟨(some 63), .call (.func 30) [(.tmp 56), (.tmp 60), (.tmp 61), (.tmp 62)], none, false⟩])))
 (.region false [⟨(some 64), .bin .add 3 (.tmp 52) (.const (.int .i64 1)), none, false⟩,
 ⟨(some 52), .move (.tmp 64), none, false⟩])))
/-- patchbay/access.Reads -/
def ac22 : AC :=
 .seq (.region false [⟨(some 2), .box false 31 (.tmp 0), none, false⟩,
 ⟨(some 3), .box false 66 (.tmp 1), none, false⟩,
 ⟨(some 4), .move (.const (.slice none 0 0)), none, false⟩])
 (.seq (.region false [⟨(some 12), .load 9 true (.tmp 2), none, false⟩,
 ⟨(some 13), .build [(.string ⟨[].toArray⟩), (.slice none 0 0), (.slice none 0 0), (.slice none 0 0), (.slice none 0 0), (.slice none 0 0), (.slice none 0 0), (.slice none 0 0), (.slice none 0 0), (.slice none 0 0)] [(0, 9, (.tmp 12))], none, false⟩,
 ⟨(some 14), .box true 82 (.tmp 13), none, false⟩,
 ⟨(some 5), .move (.tmp 14), none, false⟩])
 (.seq (.seq (.region false [⟨(some 15), .faddr 0 1 false (.tmp 3), none, false⟩,
 ⟨(some 16), .load 1 false (.tmp 15), none, false⟩,
 ⟨(some 17), .bin .eql 3 (.tmp 16) (.const (.int .i64 (-1))), none, false⟩])
 (.cond (.tmp 17)
 (.seq (.regionT [⟨(some 18), .move (.tmp 5), none, false⟩,
 ⟨(some 19), .faddr 1 1 false (.tmp 3), none, false⟩,
 ⟨(some 20), .load 1 false (.tmp 19), none, false⟩,
 ⟨(some 21), .call (.func 31) [(.tmp 20)], none, false⟩,
 ⟨(some 22), .faddr 1 1 false (.tmp 3), none, false⟩,
 ⟨(some 23), .load 1 false (.tmp 22), none, false⟩,
 ⟨(some 24), .call (.func 32) [(.tmp 23)], none, false⟩] ⟨(some 25), .call (.func 30) [(.tmp 18), (.tmp 21), (.tmp 24), (.const (.slice none 0 0))], none, false⟩)
 (.seq (.region false [⟨(some 26), .move (.tmp 5), none, false⟩,
 ⟨(some 27), .call (.func 33) [(.tmp 26)], none, false⟩,
 ⟨(some 4), .move (.tmp 27), none, false⟩])
 (.ret)))
 (.skip)))
 (.seq (.region false [⟨(some 29), .load 9 true (.tmp 2), none, false⟩,
 ⟨(some 30), .load 3 true (.tmp 3), none, false⟩,
 ⟨(some 31), .call (.func 34) [(.tmp 29), (.tmp 30)], none, false⟩,
 ⟨(some 28), .move (.tmp 31), none, false⟩,
 ⟨(some 32), .extract (.tmp 28) 0, none, false⟩,
 ⟨(some 33), .extract (.tmp 28) 1, none, false⟩,
 ⟨(some 6), .alloc true 55 (.agg [(.string ⟨[].toArray⟩), (.slice none 0 0), (.slice none 0 0), (.int .i64 0), (.slice none 0 0), (.int .i64 0)].toArray), none, false⟩,
 ⟨none, .store 6 (.tmp 6) (.tmp 32), none, false⟩,
 ⟨(some 7), .move (.tmp 33), none, false⟩])
 (.seq (.seq (.region false [⟨(some 34), .move (.tmp 7), none, false⟩,
 ⟨(some 35), .un .not (.tmp 34), none, false⟩])
 (.cond (.tmp 35)
 (.seq (.region false [⟨(some 4), .move (.const (.slice none 0 0)), none, false⟩])
 (.ret))
 (.skip)))
 (.seq (.seq (.region false [⟨(some 36), .faddr 1 1 false (.tmp 6), none, false⟩,
 ⟨(some 37), .load 1 false (.tmp 36), none, false⟩,
 ⟨(some 38), .bi .len [50].toArray 3 [(.tmp 37)], none, false⟩,
 ⟨(some 39), .move (.const (.int .i64 0)), none, false⟩])
 (.block 0 (.loop ac22_L1)))
 (.seq (.seq (.region false [⟨(some 49), .faddr 2 1 false (.tmp 6), none, false⟩,
 ⟨(some 50), .load 1 false (.tmp 49), none, false⟩,
 ⟨(some 51), .bi .len [29].toArray 3 [(.tmp 50)], none, false⟩,
 ⟨(some 52), .move (.const (.int .i64 0)), none, false⟩])
 (.block 2 (.loop ac22_L2)))
 (.seq (.region false [⟨(some 65), .move (.tmp 5), none, false⟩,
 ⟨(some 66), .call (.func 33) [(.tmp 65)], none, false⟩,
 ⟨(some 4), .move (.tmp 66), none, false⟩])
 (.ret))))))))
theorem text22 : FnText Tryz.prog 22 [14, 6, 9] 67 2 ac22 [(4, none)] :=
 ⟨Tryz.call22, follows, Tryz.f22, _, Tryz.func22, rfl, rfl, by decide, by kernel_rfl, by kernel_rfl⟩

def ac31_L1 : AC :=
 .seq (.region false [⟨(some 9), .bin .lss 3 (.tmp 8) (.tmp 7), none, false⟩])
 (.seq (.cond (.tmp 9)
 (.skip)
 (.exit 0))
 (.seq (.block 1 (.seq (.region false [⟨(some 10), .iaddr 3 (.tmp 6) (.tmp 8), none, false⟩,
 ⟨(some 11), .load 3 true (.tmp 10), none, false⟩,
 ⟨(some 5), .alloc true 62 (.agg [(.int .i64 0), (.int .i64 0), (.int .i64 0)].toArray), none, false⟩,
 ⟨none, .store 3 (.tmp 5) (.tmp 11), none, false⟩])
 (.seq (.region false [⟨(some 12), .faddr 0 1 false (.tmp 5), none, false⟩,
 ⟨(some 13), .load 1 false (.tmp 12), none, false⟩,
 ⟨(some 14), .bin .eql 3 (.tmp 13) (.const (.int .i64 2)), none, false⟩])
 (.cond (.tmp 14)
 (.region false [⟨(some 15), .move (.tmp 3), none, false⟩,
 ⟨(some 16), .faddr 1 1 false (.tmp 5), none, false⟩,
 ⟨(some 17), .load 1 false (.tmp 16), none, false⟩,
 ⟨(some 18), .faddr 2 1 false (.tmp 5), none, false⟩,
 ⟨(some 19), .load 1 false (.tmp 18), none, false⟩,
 ⟨(some 20), .build [(.int .i64 0), (.int .i64 0)] [(0, 1, (.tmp 17)), (1, 1, (.tmp 19))], none, false⟩,
 ⟨(some 21), .bslice false 33 2 false [(.tmp 20)], none, false⟩,
 ⟨(some 22), .append 84 33 2 16 (.tmp 15) (.tmp 21), none, false⟩,
 ⟨(some 3), .move (.tmp 22), none, false⟩])
 (.skip)))))
 (.region false [⟨(some 23), .bin .add 3 (.tmp 8) (.const (.int .i64 1)), none, false⟩,
 ⟨(some 8), .move (.tmp 23), none, false⟩])))
/-- patchbay/expr.Fields -/
def ac31 : AC :=
 .seq (.region false [⟨(some 2), .move (.const (.slice none 0 0)), none, false⟩])
 (.seq (.region false [⟨(some 3), .move (.const (.slice none 0 0)), none, false⟩])
 (.seq (.seq (.region false [⟨(some 6), .move (.tmp 0), none, false⟩,
 ⟨(some 7), .bi .len [63].toArray 3 [(.tmp 6)], none, false⟩,
 ⟨(some 8), .move (.const (.int .i64 0)), none, false⟩])
 (.block 0 (.loop ac31_L1)))
 (.seq (.region false [⟨(some 24), .move (.tmp 3), none, false⟩,
 ⟨(some 25), .call (.func 42) [(.tmp 24), (.func 43)], none, false⟩])
 (.seq (.region false [⟨(some 26), .move (.tmp 3), none, false⟩,
 ⟨(some 27), .call (.func 46) [(.tmp 26)], none, false⟩,
 ⟨(some 2), .move (.tmp 27), none, false⟩])
 (.ret)))))
theorem text31 : FnText Tryz.prog 31 [5] 28 1 ac31 [(2, none)] :=
 ⟨Tryz.call31, follows, Tryz.f31, _, Tryz.func31, rfl, rfl, by decide, by kernel_rfl, by kernel_rfl⟩


/-- slices.SortFunc[[]patchbay/api.FieldRef,patchbay/api.FieldRef] -/
def ac42 : AC :=
 .seq (.region false [⟨(some 5), .move (.tmp 0), none, false⟩,
 ⟨(some 6), .bi .len [84].toArray 3 [(.tmp 5)], none, false⟩,
 ⟨(some 4), .move (.tmp 6), none, false⟩])
 (.region false [⟨(some 7), .move (.tmp 0), none, false⟩,
 ⟨(some 8), .move (.tmp 4), none, false⟩,
 ⟨(some 9), .move (.tmp 4), none, false⟩,
 ⟨(some 10), .conv 3 115 (.tmp 9), none, false⟩,
 ⟨(some 11), .call (.func 55) [(.tmp 10)], none, false⟩,
 ⟨(some 12), .move (.tmp 1), none, false⟩,
 ⟨(some 13), .call (.func 54) [(.tmp 7), (.const (.int .i64 0)), (.tmp 8), (.tmp 11), (.tmp 12)], none, false⟩])
theorem text42 : FnText Tryz.prog 42 [] 14 2 ac42 [] :=
 ⟨Tryz.call42, follows, Tryz.f42, _, Tryz.func42, rfl, rfl, by decide, by kernel_rfl, by kernel_rfl⟩


/-- math/bits.Len -/
def ac55 : AC :=
 .seq (.region false [⟨(some 2), .move (.const (.int .i64 0)), none, false⟩])
 (.seq (.cond (.const (.bool false))
 (.seq (.region false [⟨(some 3), .move (.tmp 0), none, false⟩,
 ⟨(some 4), .conv 115 96 (.tmp 3), none, false⟩,
 ⟨(some 5), .call (.func 68) [(.tmp 4)], none, false⟩,
 ⟨(some 2), .move (.tmp 5), none, false⟩])
 (.ret))
 (.skip))
 (.seq (.region false [⟨(some 6), .move (.tmp 0), none, false⟩,
 ⟨(some 7), .call (.func 69) [(.tmp 6)], none, false⟩,
 ⟨(some 2), .move (.tmp 7), none, false⟩])
 (.ret)))
theorem text55 : FnText Tryz.prog 55 [] 8 1 ac55 [(2, none)] :=
 ⟨Tryz.call55, follows, Tryz.f55, _, Tryz.func55, rfl, rfl, by decide, by kernel_rfl, by kernel_rfl⟩


/-- math/bits.Len32 -/
def ac68 : AC :=
 .seq (.region false [⟨(some 2), .move (.const (.int .i64 0)), none, false⟩])
 (.seq (.seq (.region false [⟨(some 3), .move (.tmp 0), none, false⟩,
 ⟨(some 4), .bin .geq 96 (.tmp 3) (.const (.int .u32 65536)), none, false⟩])
 (.cond (.tmp 4)
 (.seq (.region false [⟨(some 5), .move (.tmp 0), none, false⟩,
 ⟨(some 6), .bin .shr 96 (.tmp 5) (.const (.int .u64 16)), none, false⟩,
 ⟨(some 0), .move (.tmp 6), none, false⟩])
 (.region false [⟨(some 2), .move (.const (.int .i64 16)), none, false⟩]))
 (.skip)))
 (.seq (.seq (.region false [⟨(some 7), .move (.tmp 0), none, false⟩,
 ⟨(some 8), .bin .geq 96 (.tmp 7) (.const (.int .u32 256)), none, false⟩])
 (.cond (.tmp 8)
 (.seq (.region false [⟨(some 9), .move (.tmp 0), none, false⟩,
 ⟨(some 10), .bin .shr 96 (.tmp 9) (.const (.int .u64 8)), none, false⟩,
 ⟨(some 0), .move (.tmp 10), none, false⟩])
 (.region false [⟨(some 11), .move (.tmp 2), none, false⟩,
 ⟨(some 12), .bin .add 3 (.tmp 11) (.const (.int .i64 8)), none, false⟩,
 ⟨(some 2), .move (.tmp 12), none, false⟩]))
 (.skip)))
 (.seq (.region false [⟨(some 13), .move (.tmp 2), none, false⟩,
 ⟨(some 14), .move (.tmp 0), none, false⟩,
 ⟨(some 15), .conv 96 5 (.tmp 14), none, false⟩,
 ⟨(some 16), .indexS 9 (.const (.string ⟨[0, 1, 2, 2, 3, 3, 3, 3, 4, 4, 4, 4, 4, 4, 4, 4, 5, 5, 5, 5, 5, 5, 5, 5, 5, 5, 5, 5, 5, 5, 5, 5, 6, 6, 6, 6, 6, 6, 6, 6, 6, 6, 6, 6, 6, 6, 6, 6, 6, 6, 6, 6, 6, 6, 6, 6, 6, 6, 6, 6, 6, 6, 6, 6, 7, 7, 7, 7, 7, 7, 7, 7, 7, 7, 7, 7, 7, 7, 7, 7, 7, 7, 7, 7, 7, 7, 7, 7, 7, 7, 7, 7, 7, 7, 7, 7, 7, 7, 7, 7, 7, 7, 7, 7, 7, 7, 7, 7, 7, 7, 7, 7, 7, 7, 7, 7, 7, 7, 7, 7, 7, 7, 7, 7, 7, 7, 7, 7, 8, 8, 8, 8, 8, 8, 8, 8, 8, 8, 8, 8, 8, 8, 8, 8, 8, 8, 8, 8, 8, 8, 8, 8, 8, 8, 8, 8, 8, 8, 8, 8, 8, 8, 8, 8, 8, 8, 8, 8, 8, 8, 8, 8, 8, 8, 8, 8, 8, 8, 8, 8, 8, 8, 8, 8, 8, 8, 8, 8, 8, 8, 8, 8, 8, 8, 8, 8, 8, 8, 8, 8, 8, 8, 8, 8, 8, 8, 8, 8, 8, 8, 8, 8, 8, 8, 8, 8, 8, 8, 8, 8, 8, 8, 8, 8, 8, 8, 8, 8, 8, 8, 8, 8, 8, 8, 8, 8, 8, 8, 8, 8, 8, 8, 8, 8, 8, 8, 8, 8, 8, 8, 8, 8, 8, 8, 8, 8].toArray⟩)) (.tmp 15), none, false⟩,
 ⟨(some 17), .conv 5 3 (.tmp 16), none, false⟩,
 ⟨(some 18), .bin .add 3 (.tmp 13) (.tmp 17), none, false⟩,
 ⟨(some 2), .move (.tmp 18), none, false⟩])
 (.ret))))
theorem text68 : FnText Tryz.prog 68 [] 19 1 ac68 [(2, none)] :=
 ⟨Tryz.call68, follows, Tryz.f68, _, Tryz.func68, rfl, rfl, by decide, by kernel_rfl, by kernel_rfl⟩


/-- math/bits.Len64 -/
def ac69 : AC :=
 .seq (.region false [⟨(some 2), .move (.const (.int .i64 0)), none, false⟩])
 (.seq (.seq (.region false [⟨(some 3), .move (.tmp 0), none, false⟩,
 ⟨(some 4), .bin .geq 132 (.tmp 3) (.const (.int .u64 4294967296)), none, false⟩])
 (.cond (.tmp 4)
 (.seq (.region false [⟨(some 5), .move (.tmp 0), none, false⟩,
 ⟨(some 6), .bin .shr 132 (.tmp 5) (.const (.int .u64 32)), none, false⟩,
 ⟨(some 0), .move (.tmp 6), none, false⟩])
 (.region false [⟨(some 2), .move (.const (.int .i64 32)), none, false⟩]))
 (.skip)))
 (.seq (.seq (.region false [⟨(some 7), .move (.tmp 0), none, false⟩,
 ⟨(some 8), .bin .geq 132 (.tmp 7) (.const (.int .u64 65536)), none, false⟩])
 (.cond (.tmp 8)
 (.seq (.region false [⟨(some 9), .move (.tmp 0), none, false⟩,
 ⟨(some 10), .bin .shr 132 (.tmp 9) (.const (.int .u64 16)), none, false⟩,
 ⟨(some 0), .move (.tmp 10), none, false⟩])
 (.region false [⟨(some 11), .move (.tmp 2), none, false⟩,
 ⟨(some 12), .bin .add 3 (.tmp 11) (.const (.int .i64 16)), none, false⟩,
 ⟨(some 2), .move (.tmp 12), none, false⟩]))
 (.skip)))
 (.seq (.seq (.region false [⟨(some 13), .move (.tmp 0), none, false⟩,
 ⟨(some 14), .bin .geq 132 (.tmp 13) (.const (.int .u64 256)), none, false⟩])
 (.cond (.tmp 14)
 (.seq (.region false [⟨(some 15), .move (.tmp 0), none, false⟩,
 ⟨(some 16), .bin .shr 132 (.tmp 15) (.const (.int .u64 8)), none, false⟩,
 ⟨(some 0), .move (.tmp 16), none, false⟩])
 (.region false [⟨(some 17), .move (.tmp 2), none, false⟩,
 ⟨(some 18), .bin .add 3 (.tmp 17) (.const (.int .i64 8)), none, false⟩,
 ⟨(some 2), .move (.tmp 18), none, false⟩]))
 (.skip)))
 (.seq (.region false [⟨(some 19), .move (.tmp 2), none, false⟩,
 ⟨(some 20), .move (.tmp 0), none, false⟩,
 ⟨(some 21), .conv 132 5 (.tmp 20), none, false⟩,
 ⟨(some 22), .indexS 9 (.const (.string ⟨[0, 1, 2, 2, 3, 3, 3, 3, 4, 4, 4, 4, 4, 4, 4, 4, 5, 5, 5, 5, 5, 5, 5, 5, 5, 5, 5, 5, 5, 5, 5, 5, 6, 6, 6, 6, 6, 6, 6, 6, 6, 6, 6, 6, 6, 6, 6, 6, 6, 6, 6, 6, 6, 6, 6, 6, 6, 6, 6, 6, 6, 6, 6, 6, 7, 7, 7, 7, 7, 7, 7, 7, 7, 7, 7, 7, 7, 7, 7, 7, 7, 7, 7, 7, 7, 7, 7, 7, 7, 7, 7, 7, 7, 7, 7, 7, 7, 7, 7, 7, 7, 7, 7, 7, 7, 7, 7, 7, 7, 7, 7, 7, 7, 7, 7, 7, 7, 7, 7, 7, 7, 7, 7, 7, 7, 7, 7, 7, 8, 8, 8, 8, 8, 8, 8, 8, 8, 8, 8, 8, 8, 8, 8, 8, 8, 8, 8, 8, 8, 8, 8, 8, 8, 8, 8, 8, 8, 8, 8, 8, 8, 8, 8, 8, 8, 8, 8, 8, 8, 8, 8, 8, 8, 8, 8, 8, 8, 8, 8, 8, 8, 8, 8, 8, 8, 8, 8, 8, 8, 8, 8, 8, 8, 8, 8, 8, 8, 8, 8, 8, 8, 8, 8, 8, 8, 8, 8, 8, 8, 8, 8, 8, 8, 8, 8, 8, 8, 8, 8, 8, 8, 8, 8, 8, 8, 8, 8, 8, 8, 8, 8, 8, 8, 8, 8, 8, 8, 8, 8, 8, 8, 8, 8, 8, 8, 8, 8, 8, 8, 8, 8, 8, 8, 8, 8, 8].toArray⟩)) (.tmp 21), none, false⟩,
 ⟨(some 23), .conv 5 3 (.tmp 22), none, false⟩,
 ⟨(some 24), .bin .add 3 (.tmp 19) (.tmp 23), none, false⟩,
 ⟨(some 2), .move (.tmp 24), none, false⟩])
 (.ret)))))
theorem text69 : FnText Tryz.prog 69 [] 25 1 ac69 [(2, none)] :=
 ⟨Tryz.call69, follows, Tryz.f69, _, Tryz.func69, rfl, rfl, by decide, by kernel_rfl, by kernel_rfl⟩

def ac54_G1 : List AOper :=
 [⟨(some 70), .move (.tmp 11), (some (69, true)), false⟩,
 ⟨(some 71), .pick (.tmp 69) (.tmp 70) (.const (.bool false)), none, false⟩]
def ac54_G2 : List AOper :=
 [⟨(some 73), .move (.tmp 14), (some (72, true)), false⟩,
 ⟨(some 74), .bin .eql 123 (.tmp 73) (.const (.int .i64 1)), (some (72, true)), false⟩,
 ⟨(some 75), .pick (.tmp 72) (.tmp 74) (.const (.bool false)), none, false⟩]
def ac54_G3 : List AOper :=
 [⟨(some 84), .move (.tmp 4), (some (83, true)), false⟩,
 ⟨(some 85), .move (.tmp 0), (some (83, true)), false⟩,
 ⟨(some 86), .move (.tmp 1), (some (83, true)), false⟩,
 ⟨(some 87), .bin .sub 3 (.tmp 86) (.const (.int .i64 1)), (some (83, true)), false⟩,
 ⟨(some 88), .iaddr 2 (.tmp 85) (.tmp 87), (some (83, true)), false⟩,
 ⟨(some 89), .load 2 true (.tmp 88), (some (83, true)), false⟩,
 ⟨(some 90), .move (.tmp 0), (some (83, true)), false⟩,
 ⟨(some 91), .move (.tmp 13), (some (83, true)), false⟩,
 ⟨(some 92), .iaddr 2 (.tmp 90) (.tmp 91), (some (83, true)), false⟩,
 ⟨(some 93), .load 2 true (.tmp 92), (some (83, true)), false⟩,
 ⟨(some 94), .call (.tmp 84) [(.tmp 89), (.tmp 93)], (some (83, true)), false⟩,
 ⟨(some 95), .bin .lss 3 (.tmp 94) (.const (.int .i64 0)), (some (83, true)), false⟩,
 ⟨(some 96), .un .not (.tmp 95), (some (83, true)), false⟩,
 ⟨(some 97), .pick (.tmp 83) (.tmp 96) (.const (.bool false)), none, false⟩]
def ac54_L1 : AC :=
 .block 1 (.seq (.region false [⟨(some 21), .move (.tmp 2), none, false⟩,
 ⟨(some 22), .move (.tmp 1), none, false⟩,
 ⟨(some 23), .bin .sub 3 (.tmp 21) (.tmp 22), none, false⟩,
 ⟨(some 12), .move (.tmp 23), none, false⟩])
 (.seq (.seq (.region false [⟨(some 24), .move (.tmp 12), none, false⟩,
 ⟨(some 25), .bin .leq 3 (.tmp 24) (.const (.int .i64 12)), none, false⟩])
 (.cond (.tmp 25)
 (.seq (.region false [⟨(some 26), .move (.tmp 0), none, false⟩,
 ⟨(some 27), .move (.tmp 1), none, false⟩,
 ⟨(some 28), .move (.tmp 2), none, false⟩,
 ⟨(some 29), .move (.tmp 4), none, false⟩,
 ⟨(some 30), .call (.func 60) [(.tmp 26), (.tmp 27), (.tmp 28), (.tmp 29)], none, false⟩])
 (.ret))
 (.skip)))
 (.seq (.seq (.region false [⟨(some 31), .move (.tmp 3), none, false⟩,
 ⟨(some 32), .bin .eql 3 (.tmp 31) (.const (.int .i64 0)), none, false⟩])
 (.cond (.tmp 32)
 (.seq (.region false [⟨(some 33), .move (.tmp 0), none, false⟩,
 ⟨(some 34), .move (.tmp 1), none, false⟩,
 ⟨(some 35), .move (.tmp 2), none, false⟩,
 ⟨(some 36), .move (.tmp 4), none, false⟩,
 ⟨(some 37), .call (.func 61) [(.tmp 33), (.tmp 34), (.tmp 35), (.tmp 36)], none, false⟩])
 (.ret))
 (.skip)))
 (.seq (.seq (.region false [⟨(some 38), .move (.tmp 10), none, false⟩,
 ⟨(some 39), .un .not (.tmp 38), none, false⟩])
 (.cond (.tmp 39)
 (.seq (.region false [⟨(some 40), .move (.tmp 0), none, false⟩,
 ⟨(some 41), .move (.tmp 1), none, false⟩,
 ⟨(some 42), .move (.tmp 2), none, false⟩,
 ⟨(some 43), .move (.tmp 4), none, false⟩,
 ⟨(some 44), .call (.func 62) [(.tmp 40), (.tmp 41), (.tmp 42), (.tmp 43)], none, false⟩])
 (.region false [⟨(some 45), .move (.tmp 3), none, false⟩,
 ⟨(some 46), .bin .sub 3 (.tmp 45) (.const (.int .i64 1)), none, false⟩,
 ⟨(some 3), .move (.tmp 46), none, false⟩]))
 (.skip)))
 (.seq (.region false [⟨(some 48), .move (.tmp 0), none, false⟩,
 ⟨(some 49), .move (.tmp 1), none, false⟩,
 ⟨(some 50), .move (.tmp 2), none, false⟩,
 ⟨(some 51), .move (.tmp 4), none, false⟩,
 ⟨(some 52), .call (.func 63) [(.tmp 48), (.tmp 49), (.tmp 50), (.tmp 51)], none, false⟩,
 ⟨(some 47), .move (.tmp 52), none, false⟩,
 ⟨(some 53), .extract (.tmp 47) 0, none, false⟩,
 ⟨(some 54), .extract (.tmp 47) 1, none, false⟩,
 ⟨(some 13), .move (.tmp 53), none, false⟩,
 ⟨(some 14), .move (.tmp 54), none, false⟩])
 (.seq (.seq (.region false [⟨(some 55), .move (.tmp 14), none, false⟩,
 ⟨(some 56), .bin .eql 123 (.tmp 55) (.const (.int .i64 2)), none, false⟩])
 (.cond (.tmp 56)
 (.seq (.region false [⟨(some 57), .move (.tmp 0), none, false⟩,
 ⟨(some 58), .move (.tmp 1), none, false⟩,
 ⟨(some 59), .move (.tmp 2), none, false⟩,
 ⟨(some 60), .move (.tmp 4), none, false⟩,
 ⟨(some 61), .call (.func 64) [(.tmp 57), (.tmp 58), (.tmp 59), (.tmp 60)], none, false⟩])
 (.seq (.region false [⟨(some 62), .move (.tmp 2), none, false⟩,
 ⟨(some 63), .bin .sub 3 (.tmp 62) (.const (.int .i64 1)), none, false⟩,
 ⟨(some 64), .move (.tmp 13), none, false⟩,
 ⟨(some 65), .move (.tmp 1), none, false⟩,
 ⟨(some 66), .bin .sub 3 (.tmp 64) (.tmp 65), none, false⟩,
 ⟨(some 67), .bin .sub 3 (.tmp 63) (.tmp 66), none, false⟩,
 ⟨(some 13), .move (.tmp 67), none, false⟩])
 (.region false [⟨(some 14), .move (.const (.int .i64 1)), none, false⟩])))
 (.skip)))
 (.seq (.seq (.region false (⟨(some 68), .move (.tmp 10), none, false⟩ :: ⟨(some 69), .move (.tmp 68), none, false⟩ :: (ac54_G1 ++ (⟨(some 72), .move (.tmp 71), none, false⟩ :: (ac54_G2 ++ [])))))
 (.cond (.tmp 75)
 (.seq (.region false [⟨(some 76), .move (.tmp 0), none, false⟩,
 ⟨(some 77), .move (.tmp 1), none, false⟩,
 ⟨(some 78), .move (.tmp 2), none, false⟩,
 ⟨(some 79), .move (.tmp 4), none, false⟩,
 ⟨(some 80), .call (.func 65) [(.tmp 76), (.tmp 77), (.tmp 78), (.tmp 79)], none, false⟩])
 (.cond (.tmp 80)
 (.ret)
 (.skip)))
 (.skip)))
 (.seq (.seq (.region true (⟨(some 81), .move (.tmp 1), none, false⟩ :: ⟨(some 82), .bin .gtr 3 (.tmp 81) (.const (.int .i64 0)), none, false⟩ :: ⟨(some 83), .move (.tmp 82), none, false⟩ :: (ac54_G3 ++ [])))
 (.cond (.tmp 97)
 (.seq (.region false [⟨(some 98), .move (.tmp 0), none, false⟩,
 ⟨(some 99), .move (.tmp 1), none, false⟩,
 ⟨(some 100), .move (.tmp 2), none, false⟩,
 ⟨(some 101), .move (.tmp 13), none, false⟩,
 ⟨(some 102), .move (.tmp 4), none, false⟩,
 ⟨(some 103), .call (.func 66) [(.tmp 98), (.tmp 99), (.tmp 100), (.tmp 101), (.tmp 102)], none, false⟩,
 ⟨(some 15), .move (.tmp 103), none, false⟩])
 (.seq (.region false [⟨(some 104), .move (.tmp 15), none, false⟩,
 ⟨(some 1), .move (.tmp 104), none, false⟩])
 (.exit 1)))
 (.skip)))
 (.seq (.region false [⟨(some 106), .move (.tmp 0), none, false⟩,
 ⟨(some 107), .move (.tmp 1), none, false⟩,
 ⟨(some 108), .move (.tmp 2), none, false⟩,
 ⟨(some 109), .move (.tmp 13), none, false⟩,
 ⟨(some 110), .move (.tmp 4), none, false⟩,
 ⟨(some 111), .call (.func 67) [(.tmp 106), (.tmp 107), (.tmp 108), (.tmp 109), (.tmp 110)], none, false⟩,
 ⟨(some 105), .move (.tmp 111), none, false⟩,
 ⟨(some 112), .extract (.tmp 105) 0, none, false⟩,
 ⟨(some 113), .extract (.tmp 105) 1, none, false⟩,
 ⟨(some 16), .move (.tmp 112), none, false⟩,
 ⟨(some 17), .move (.tmp 113), none, false⟩])
 (.seq (.region false [⟨(some 114), .move (.tmp 17), none, false⟩,
 ⟨(some 11), .move (.tmp 114), none, false⟩])
 (.seq (.region false [⟨(some 115), .move (.tmp 16), none, false⟩,
 ⟨(some 116), .move (.tmp 1), none, false⟩,
 ⟨(some 117), .bin .sub 3 (.tmp 115) (.tmp 116), none, false⟩,
 ⟨(some 118), .move (.tmp 2), none, false⟩,
 ⟨(some 119), .move (.tmp 16), none, false⟩,
 ⟨(some 120), .bin .sub 3 (.tmp 118) (.tmp 119), none, false⟩,
 ⟨(some 18), .move (.tmp 117), none, false⟩,
 ⟨(some 19), .move (.tmp 120), none, false⟩])
 (.seq (.region false [⟨(some 121), .move (.tmp 12), none, false⟩,
 ⟨(some 122), .bin .quo 3 (.tmp 121) (.const (.int .i64 8)), none, false⟩,
 ⟨(some 20), .move (.tmp 122), none, false⟩])
 (.seq (.region false [⟨(some 123), .move (.tmp 18), none, false⟩,
 ⟨(some 124), .move (.tmp 19), none, false⟩,
 ⟨(some 125), .bin .lss 3 (.tmp 123) (.tmp 124), none, false⟩])
 (.cond (.tmp 125)
 (.seq (.region false [⟨(some 126), .move (.tmp 18), none, false⟩,
 ⟨(some 127), .move (.tmp 20), none, false⟩,
 ⟨(some 128), .bin .geq 3 (.tmp 126) (.tmp 127), none, false⟩,
 ⟨(some 10), .move (.tmp 128), none, false⟩])
 (.seq (.region false [⟨(some 129), .move (.tmp 0), none, false⟩,
 ⟨(some 130), .move (.tmp 1), none, false⟩,
 ⟨(some 131), .move (.tmp 16), none, false⟩,
 ⟨(some 132), .move (.tmp 3), none, false⟩,
 ⟨(some 133), .move (.tmp 4), none, false⟩,
 ⟨(some 134), .call (.func 54) [(.tmp 129), (.tmp 130), (.tmp 131), (.tmp 132), (.tmp 133)], none, false⟩])
 (.region false [⟨(some 135), .move (.tmp 16), none, false⟩,
 ⟨(some 136), .bin .add 3 (.tmp 135) (.const (.int .i64 1)), none, false⟩,
 ⟨(some 1), .move (.tmp 136), none, false⟩])))
 (.seq (.region false [⟨(some 137), .move (.tmp 19), none, false⟩,
 ⟨(some 138), .move (.tmp 20), none, false⟩,
 ⟨(some 139), .bin .geq 3 (.tmp 137) (.tmp 138), none, false⟩,
 ⟨(some 10), .move (.tmp 139), none, false⟩])
 (.seq (.region false [⟨(some 140), .move (.tmp 0), none, false⟩,
 ⟨(some 141), .move (.tmp 16), none, false⟩,
 ⟨(some 142), .bin .add 3 (.tmp 141) (.const (.int .i64 1)), none, false⟩,
 ⟨(some 143), .move (.tmp 2), none, false⟩,
 ⟨(some 144), .move (.tmp 3), none, false⟩,
 ⟨(some 145), .move (.tmp 4), none, false⟩,
 ⟨(some 146), .call (.func 54) [(.tmp 140), (.tmp 142), (.tmp 143), (.tmp 144), (.tmp 145)], none, false⟩])
 (.region false [⟨(some 147), .move (.tmp 16), none, false⟩,
 ⟨(some 2), .move (.tmp 147), none, false⟩])))))))))))))))))
/-- slices.pdqsortCmpFunc[patchbay/api.FieldRef] -/
def ac54 : AC :=
 .seq (.region false [⟨(some 10), .move (.const (.bool true)), none, false⟩])
 (.seq (.region false [⟨(some 11), .move (.const (.bool true)), none, false⟩])
 (.block 0 (.loop ac54_L1)))
theorem text54 : FnText Tryz.prog 54 [] 148 5 ac54 [] :=
 ⟨Tryz.call54, follows, Tryz.f54, _, Tryz.func54, rfl, rfl, by decide, by kernel_rfl, by kernel_rfl⟩

def ac60_G1 : List AOper :=
 [⟨(some 22), .move (.tmp 3), (some (21, true)), false⟩,
 ⟨(some 23), .move (.tmp 0), (some (21, true)), false⟩,
 ⟨(some 24), .move (.tmp 9), (some (21, true)), false⟩,
 ⟨(some 25), .iaddr 2 (.tmp 23) (.tmp 24), (some (21, true)), false⟩,
 ⟨(some 26), .load 2 true (.tmp 25), (some (21, true)), false⟩,
 ⟨(some 27), .move (.tmp 0), (some (21, true)), false⟩,
 ⟨(some 28), .move (.tmp 9), (some (21, true)), false⟩,
 ⟨(some 29), .bin .sub 3 (.tmp 28) (.const (.int .i64 1)), (some (21, true)), false⟩,
 ⟨(some 30), .iaddr 2 (.tmp 27) (.tmp 29), (some (21, true)), false⟩,
 ⟨(some 31), .load 2 true (.tmp 30), (some (21, true)), false⟩,
 ⟨(some 32), .call (.tmp 22) [(.tmp 26), (.tmp 31)], (some (21, true)), false⟩,
 ⟨(some 33), .bin .lss 3 (.tmp 32) (.const (.int .i64 0)), (some (21, true)), false⟩,
 ⟨(some 34), .pick (.tmp 21) (.tmp 33) (.const (.bool false)), none, false⟩]
def ac60_L2 : AC :=
 .seq (.seq (.region true (⟨(some 18), .move (.tmp 9), none, false⟩ :: ⟨(some 19), .move (.tmp 1), none, false⟩ :: ⟨(some 20), .bin .gtr 3 (.tmp 18) (.tmp 19), none, false⟩ :: ⟨(some 21), .move (.tmp 20), none, false⟩ :: (ac60_G1 ++ [])))
 (.cond (.tmp 34)
 (.skip)
 (.exit 2)))
 (.seq (.block 3 (.region true [⟨(some 37), .move (.tmp 0), none, false⟩,
 ⟨(some 38), .move (.tmp 9), none, false⟩,
 ⟨(some 39), .move (.tmp 0), none, true⟩,
 ⟨(some 40), .move (.tmp 9), none, true⟩,
 ⟨(some 41), .bin .sub 3 (.tmp 40) (.const (.int .i64 1)), none, true⟩,
 ⟨(some 42), .move (.tmp 0), none, false⟩,
 ⟨(some 43), .move (.tmp 9), none, false⟩,
 ⟨(some 44), .bin .sub 3 (.tmp 43) (.const (.int .i64 1)), none, false⟩,
 ⟨(some 45), .iaddr 2 (.tmp 42) (.tmp 44), none, false⟩,
 ⟨(some 46), .load 2 true (.tmp 45), none, false⟩,
 ⟨(some 47), .move (.tmp 0), none, false⟩,
 ⟨(some 48), .move (.tmp 9), none, false⟩,
 ⟨(some 49), .iaddr 2 (.tmp 47) (.tmp 48), none, false⟩,
 ⟨(some 50), .load 2 true (.tmp 49), none, false⟩,
 ⟨(some 51), .iaddr 2 (.tmp 37) (.tmp 38), none, false⟩,
 ⟨none, .store 2 (.tmp 51) (.tmp 46), none, false⟩,
 ⟨(some 52), .iaddr 2 (.tmp 39) (.tmp 41), none, false⟩,
 ⟨none, .store 2 (.tmp 52) (.tmp 50), none, false⟩]))
 (.region false [⟨(some 35), .move (.tmp 9), none, false⟩,
 ⟨(some 36), .bin .sub 3 (.tmp 35) (.const (.int .i64 1)), none, false⟩,
 ⟨(some 9), .move (.tmp 36), none, false⟩]))
def ac60_L1 : AC :=
 .seq (.seq (.region false [⟨(some 12), .move (.tmp 8), none, false⟩,
 ⟨(some 13), .move (.tmp 2), none, false⟩,
 ⟨(some 14), .bin .lss 3 (.tmp 12) (.tmp 13), none, false⟩])
 (.cond (.tmp 14)
 (.skip)
 (.exit 0)))
 (.seq (.block 1 (.seq (.region false [⟨(some 17), .move (.tmp 8), none, false⟩,
 ⟨(some 9), .move (.tmp 17), none, false⟩])
 (.block 2 (.loop ac60_L2))))
 (.region false [⟨(some 15), .move (.tmp 8), none, false⟩,
 ⟨(some 16), .bin .add 3 (.tmp 15) (.const (.int .i64 1)), none, false⟩,
 ⟨(some 8), .move (.tmp 16), none, false⟩]))
/-- slices.insertionSortCmpFunc[patchbay/api.FieldRef] -/
def ac60 : AC :=
 .seq (.region false [⟨(some 10), .move (.tmp 1), none, false⟩,
 ⟨(some 11), .bin .add 3 (.tmp 10) (.const (.int .i64 1)), none, false⟩,
 ⟨(some 8), .move (.tmp 11), none, false⟩])
 (.block 0 (.loop ac60_L1))
theorem text60 : FnText Tryz.prog 60 [] 53 4 ac60 [] :=
 ⟨Tryz.call60, follows, Tryz.f60, _, Tryz.func60, rfl, rfl, by decide, by kernel_rfl, by kernel_rfl⟩

def ac61_L1 : AC :=
 .seq (.seq (.region false [⟨(some 20), .move (.tmp 11), none, false⟩,
 ⟨(some 21), .bin .geq 3 (.tmp 20) (.const (.int .i64 0)), none, false⟩])
 (.cond (.tmp 21)
 (.skip)
 (.exit 0)))
 (.seq (.block 1 (.region false [⟨(some 24), .move (.tmp 0), none, false⟩,
 ⟨(some 25), .move (.tmp 11), none, false⟩,
 ⟨(some 26), .move (.tmp 10), none, false⟩,
 ⟨(some 27), .move (.tmp 8), none, false⟩,
 ⟨(some 28), .move (.tmp 3), none, false⟩,
 ⟨(some 29), .call (.func 81) [(.tmp 24), (.tmp 25), (.tmp 26), (.tmp 27), (.tmp 28)], none, false⟩]))
 (.region false [⟨(some 22), .move (.tmp 11), none, false⟩,
 ⟨(some 23), .bin .sub 3 (.tmp 22) (.const (.int .i64 1)), none, false⟩,
 ⟨(some 11), .move (.tmp 23), none, false⟩]))
def ac61_L2 : AC :=
 .seq (.seq (.region false [⟨(some 32), .move (.tmp 12), none, false⟩,
 ⟨(some 33), .bin .geq 3 (.tmp 32) (.const (.int .i64 0)), none, false⟩])
 (.cond (.tmp 33)
 (.skip)
 (.exit 2)))
 (.seq (.block 3 (.seq (.region true [⟨(some 36), .move (.tmp 0), none, false⟩,
 ⟨(some 37), .move (.tmp 8), none, false⟩,
 ⟨(some 38), .move (.tmp 0), none, true⟩,
 ⟨(some 39), .move (.tmp 8), none, true⟩,
 ⟨(some 40), .move (.tmp 12), none, true⟩,
 ⟨(some 41), .bin .add 3 (.tmp 39) (.tmp 40), none, true⟩,
 ⟨(some 42), .move (.tmp 0), none, false⟩,
 ⟨(some 43), .move (.tmp 8), none, false⟩,
 ⟨(some 44), .move (.tmp 12), none, false⟩,
 ⟨(some 45), .bin .add 3 (.tmp 43) (.tmp 44), none, false⟩,
 ⟨(some 46), .iaddr 2 (.tmp 42) (.tmp 45), none, false⟩,
 ⟨(some 47), .load 2 true (.tmp 46), none, false⟩,
 ⟨(some 48), .move (.tmp 0), none, false⟩,
 ⟨(some 49), .move (.tmp 8), none, false⟩,
 ⟨(some 50), .iaddr 2 (.tmp 48) (.tmp 49), none, false⟩,
 ⟨(some 51), .load 2 true (.tmp 50), none, false⟩,
 ⟨(some 52), .iaddr 2 (.tmp 36) (.tmp 37), none, false⟩,
 ⟨none, .store 2 (.tmp 52) (.tmp 47), none, false⟩,
 ⟨(some 53), .iaddr 2 (.tmp 38) (.tmp 41), none, false⟩,
 ⟨none, .store 2 (.tmp 53) (.tmp 51), none, false⟩])
 (.region false [⟨(some 54), .move (.tmp 0), none, false⟩,
 ⟨(some 55), .move (.tmp 9), none, false⟩,
 ⟨(some 56), .move (.tmp 12), none, false⟩,
 ⟨(some 57), .move (.tmp 8), none, false⟩,
 ⟨(some 58), .move (.tmp 3), none, false⟩,
 ⟨(some 59), .call (.func 81) [(.tmp 54), (.tmp 55), (.tmp 56), (.tmp 57), (.tmp 58)], none, false⟩])))
 (.region false [⟨(some 34), .move (.tmp 12), none, false⟩,
 ⟨(some 35), .bin .sub 3 (.tmp 34) (.const (.int .i64 1)), none, false⟩,
 ⟨(some 12), .move (.tmp 35), none, false⟩]))
/-- slices.heapSortCmpFunc[patchbay/api.FieldRef] -/
def ac61 : AC :=
 .seq (.region false [⟨(some 13), .move (.tmp 1), none, false⟩,
 ⟨(some 8), .move (.tmp 13), none, false⟩])
 (.seq (.region false [⟨(some 9), .move (.const (.int .i64 0)), none, false⟩])
 (.seq (.region false [⟨(some 14), .move (.tmp 2), none, false⟩,
 ⟨(some 15), .move (.tmp 1), none, false⟩,
 ⟨(some 16), .bin .sub 3 (.tmp 14) (.tmp 15), none, false⟩,
 ⟨(some 10), .move (.tmp 16), none, false⟩])
 (.seq (.seq (.region false [⟨(some 17), .move (.tmp 10), none, false⟩,
 ⟨(some 18), .bin .sub 3 (.tmp 17) (.const (.int .i64 1)), none, false⟩,
 ⟨(some 19), .bin .quo 3 (.tmp 18) (.const (.int .i64 2)), none, false⟩,
 ⟨(some 11), .move (.tmp 19), none, false⟩])
 (.block 0 (.loop ac61_L1)))
 (.seq (.region false [⟨(some 30), .move (.tmp 10), none, false⟩,
 ⟨(some 31), .bin .sub 3 (.tmp 30) (.const (.int .i64 1)), none, false⟩,
 ⟨(some 12), .move (.tmp 31), none, false⟩])
 (.block 2 (.loop ac61_L2))))))
theorem text61 : FnText Tryz.prog 61 [] 60 4 ac61 [] :=
 ⟨Tryz.call61, follows, Tryz.f61, _, Tryz.func61, rfl, rfl, by decide, by kernel_rfl, by kernel_rfl⟩

def ac81_G1 : List AOper :=
 [⟨(some 24), .move (.tmp 4), (some (23, true)), false⟩,
 ⟨(some 25), .move (.tmp 0), (some (23, true)), false⟩,
 ⟨(some 26), .move (.tmp 3), (some (23, true)), false⟩,
 ⟨(some 27), .move (.tmp 11), (some (23, true)), false⟩,
 ⟨(some 28), .bin .add 3 (.tmp 26) (.tmp 27), (some (23, true)), false⟩,
 ⟨(some 29), .iaddr 2 (.tmp 25) (.tmp 28), (some (23, true)), false⟩,
 ⟨(some 30), .load 2 true (.tmp 29), (some (23, true)), false⟩,
 ⟨(some 31), .move (.tmp 0), (some (23, true)), false⟩,
 ⟨(some 32), .move (.tmp 3), (some (23, true)), false⟩,
 ⟨(some 33), .move (.tmp 11), (some (23, true)), false⟩,
 ⟨(some 34), .bin .add 3 (.tmp 32) (.tmp 33), (some (23, true)), false⟩,
 ⟨(some 35), .bin .add 3 (.tmp 34) (.const (.int .i64 1)), (some (23, true)), false⟩,
 ⟨(some 36), .iaddr 2 (.tmp 31) (.tmp 35), (some (23, true)), false⟩,
 ⟨(some 37), .load 2 true (.tmp 36), (some (23, true)), false⟩,
 ⟨(some 38), .call (.tmp 24) [(.tmp 30), (.tmp 37)], (some (23, true)), false⟩,
 ⟨(some 39), .bin .lss 3 (.tmp 38) (.const (.int .i64 0)), (some (23, true)), false⟩,
 ⟨(some 40), .pick (.tmp 23) (.tmp 39) (.const (.bool false)), none, false⟩]
def ac81_L1 : AC :=
 .block 1 (.seq (.region false [⟨(some 13), .move (.tmp 10), none, false⟩,
 ⟨(some 14), .bin .mul 3 (.const (.int .i64 2)) (.tmp 13), none, false⟩,
 ⟨(some 15), .bin .add 3 (.tmp 14) (.const (.int .i64 1)), none, false⟩,
 ⟨(some 11), .move (.tmp 15), none, false⟩])
 (.seq (.seq (.region false [⟨(some 16), .move (.tmp 11), none, false⟩,
 ⟨(some 17), .move (.tmp 2), none, false⟩,
 ⟨(some 18), .bin .geq 3 (.tmp 16) (.tmp 17), none, false⟩])
 (.cond (.tmp 18)
 (.exit 0)
 (.skip)))
 (.seq (.seq (.region true (⟨(some 19), .move (.tmp 11), none, false⟩ :: ⟨(some 20), .bin .add 3 (.tmp 19) (.const (.int .i64 1)), none, false⟩ :: ⟨(some 21), .move (.tmp 2), none, false⟩ :: ⟨(some 22), .bin .lss 3 (.tmp 20) (.tmp 21), none, false⟩ :: ⟨(some 23), .move (.tmp 22), none, false⟩ :: (ac81_G1 ++ [])))
 (.cond (.tmp 40)
 (.region false [⟨(some 41), .move (.tmp 11), none, false⟩,
 ⟨(some 42), .bin .add 3 (.tmp 41) (.const (.int .i64 1)), none, false⟩,
 ⟨(some 11), .move (.tmp 42), none, false⟩])
 (.skip)))
 (.seq (.seq (.region true [⟨(some 43), .move (.tmp 4), none, false⟩,
 ⟨(some 44), .move (.tmp 0), none, false⟩,
 ⟨(some 45), .move (.tmp 3), none, false⟩,
 ⟨(some 46), .move (.tmp 10), none, false⟩,
 ⟨(some 47), .bin .add 3 (.tmp 45) (.tmp 46), none, false⟩,
 ⟨(some 48), .iaddr 2 (.tmp 44) (.tmp 47), none, false⟩,
 ⟨(some 49), .load 2 true (.tmp 48), none, false⟩,
 ⟨(some 50), .move (.tmp 0), none, false⟩,
 ⟨(some 51), .move (.tmp 3), none, false⟩,
 ⟨(some 52), .move (.tmp 11), none, false⟩,
 ⟨(some 53), .bin .add 3 (.tmp 51) (.tmp 52), none, false⟩,
 ⟨(some 54), .iaddr 2 (.tmp 50) (.tmp 53), none, false⟩,
 ⟨(some 55), .load 2 true (.tmp 54), none, false⟩,
 ⟨(some 56), .call (.tmp 43) [(.tmp 49), (.tmp 55)], none, false⟩,
 ⟨(some 57), .bin .lss 3 (.tmp 56) (.const (.int .i64 0)), none, false⟩,
 ⟨(some 58), .un .not (.tmp 57), none, false⟩])
 (.cond (.tmp 58)
 (.ret)
 (.skip)))
 (.seq (.region true [⟨(some 59), .move (.tmp 0), none, false⟩,
 ⟨(some 60), .move (.tmp 3), none, false⟩,
 ⟨(some 61), .move (.tmp 10), none, false⟩,
 ⟨(some 62), .bin .add 3 (.tmp 60) (.tmp 61), none, false⟩,
 ⟨(some 63), .move (.tmp 0), none, true⟩,
 ⟨(some 64), .move (.tmp 3), none, true⟩,
 ⟨(some 65), .move (.tmp 11), none, true⟩,
 ⟨(some 66), .bin .add 3 (.tmp 64) (.tmp 65), none, true⟩,
 ⟨(some 67), .move (.tmp 0), none, false⟩,
 ⟨(some 68), .move (.tmp 3), none, false⟩,
 ⟨(some 69), .move (.tmp 11), none, false⟩,
 ⟨(some 70), .bin .add 3 (.tmp 68) (.tmp 69), none, false⟩,
 ⟨(some 71), .iaddr 2 (.tmp 67) (.tmp 70), none, false⟩,
 ⟨(some 72), .load 2 true (.tmp 71), none, false⟩,
 ⟨(some 73), .move (.tmp 0), none, false⟩,
 ⟨(some 74), .move (.tmp 3), none, false⟩,
 ⟨(some 75), .move (.tmp 10), none, false⟩,
 ⟨(some 76), .bin .add 3 (.tmp 74) (.tmp 75), none, false⟩,
 ⟨(some 77), .iaddr 2 (.tmp 73) (.tmp 76), none, false⟩,
 ⟨(some 78), .load 2 true (.tmp 77), none, false⟩,
 ⟨(some 79), .iaddr 2 (.tmp 59) (.tmp 62), none, false⟩,
 ⟨none, .store 2 (.tmp 79) (.tmp 72), none, false⟩,
 ⟨(some 80), .iaddr 2 (.tmp 63) (.tmp 66), none, false⟩,
 ⟨none, .store 2 (.tmp 80) (.tmp 78), none, false⟩])
 (.region false [⟨(some 81), .move (.tmp 11), none, false⟩,
 ⟨(some 10), .move (.tmp 81), none, false⟩]))))))
/-- slices.siftDownCmpFunc[patchbay/api.FieldRef] -/
def ac81 : AC :=
 .seq (.region false [⟨(some 12), .move (.tmp 1), none, false⟩,
 ⟨(some 10), .move (.tmp 12), none, false⟩])
 (.block 0 (.loop ac81_L1))
theorem text81 : FnText Tryz.prog 81 [] 82 5 ac81 [] :=
 ⟨Tryz.call81, follows, Tryz.f81, _, Tryz.func81, rfl, rfl, by decide, by kernel_rfl, by kernel_rfl⟩

def ac62_L1 : AC :=
 .seq (.seq (.region false [⟨(some 28), .move (.tmp 11), none, false⟩,
 ⟨(some 29), .move (.tmp 1), none, false⟩,
 ⟨(some 30), .move (.tmp 8), none, false⟩,
 ⟨(some 31), .bin .quo 3 (.tmp 30) (.const (.int .i64 4)), none, false⟩,
 ⟨(some 32), .bin .mul 3 (.tmp 31) (.const (.int .i64 2)), none, false⟩,
 ⟨(some 33), .bin .add 3 (.tmp 29) (.tmp 32), none, false⟩,
 ⟨(some 34), .bin .add 3 (.tmp 33) (.const (.int .i64 1)), none, false⟩,
 ⟨(some 35), .bin .leq 3 (.tmp 28) (.tmp 34), none, false⟩])
 (.cond (.tmp 35)
 (.skip)
 (.exit 0)))
 (.seq (.block 1 (.seq (.region false [⟨(some 38), .call (.func 83) [(.tmp 9)], none, false⟩,
 ⟨(some 39), .move (.tmp 10), none, false⟩,
 ⟨(some 40), .bin .sub 115 (.tmp 39) (.const (.int .u64 1)), none, false⟩,
 ⟨(some 41), .bin .and 115 (.tmp 38) (.tmp 40), none, false⟩,
 ⟨(some 42), .conv 115 3 (.tmp 41), none, false⟩,
 ⟨(some 12), .move (.tmp 42), none, false⟩])
 (.seq (.seq (.region false [⟨(some 43), .move (.tmp 12), none, false⟩,
 ⟨(some 44), .move (.tmp 8), none, false⟩,
 ⟨(some 45), .bin .geq 3 (.tmp 43) (.tmp 44), none, false⟩])
 (.cond (.tmp 45)
 (.region false [⟨(some 46), .move (.tmp 12), none, false⟩,
 ⟨(some 47), .move (.tmp 8), none, false⟩,
 ⟨(some 48), .bin .sub 3 (.tmp 46) (.tmp 47), none, false⟩,
 ⟨(some 12), .move (.tmp 48), none, false⟩])
 (.skip)))
 (.region true [⟨(some 49), .move (.tmp 0), none, false⟩,
 ⟨(some 50), .move (.tmp 11), none, false⟩,
 ⟨(some 51), .move (.tmp 0), none, true⟩,
 ⟨(some 52), .move (.tmp 1), none, true⟩,
 ⟨(some 53), .move (.tmp 12), none, true⟩,
 ⟨(some 54), .bin .add 3 (.tmp 52) (.tmp 53), none, true⟩,
 ⟨(some 55), .move (.tmp 0), none, false⟩,
 ⟨(some 56), .move (.tmp 1), none, false⟩,
 ⟨(some 57), .move (.tmp 12), none, false⟩,
 ⟨(some 58), .bin .add 3 (.tmp 56) (.tmp 57), none, false⟩,
 ⟨(some 59), .iaddr 2 (.tmp 55) (.tmp 58), none, false⟩,
 ⟨(some 60), .load 2 true (.tmp 59), none, false⟩,
 ⟨(some 61), .move (.tmp 0), none, false⟩,
 ⟨(some 62), .move (.tmp 11), none, false⟩,
 ⟨(some 63), .iaddr 2 (.tmp 61) (.tmp 62), none, false⟩,
 ⟨(some 64), .load 2 true (.tmp 63), none, false⟩,
 ⟨(some 65), .iaddr 2 (.tmp 49) (.tmp 50), none, false⟩,
 ⟨none, .store 2 (.tmp 65) (.tmp 60), none, false⟩,
 ⟨(some 66), .iaddr 2 (.tmp 51) (.tmp 54), none, false⟩,
 ⟨none, .store 2 (.tmp 66) (.tmp 64), none, false⟩]))))
 (.region false [⟨(some 36), .move (.tmp 11), none, false⟩,
 ⟨(some 37), .bin .add 3 (.tmp 36) (.const (.int .i64 1)), none, false⟩,
 ⟨(some 11), .move (.tmp 37), none, false⟩]))
/-- slices.breakPatternsCmpFunc[patchbay/api.FieldRef] -/
def ac62 : AC :=
 .seq (.region false [⟨(some 13), .move (.tmp 2), none, false⟩,
 ⟨(some 14), .move (.tmp 1), none, false⟩,
 ⟨(some 15), .bin .sub 3 (.tmp 13) (.tmp 14), none, false⟩,
 ⟨(some 8), .move (.tmp 15), none, false⟩])
 (.seq (.region false [⟨(some 16), .move (.tmp 8), none, false⟩,
 ⟨(some 17), .bin .geq 3 (.tmp 16) (.const (.int .i64 8)), none, false⟩])
 (.cond (.tmp 17)
 (.seq (.region false [⟨(some 18), .move (.tmp 8), none, false⟩,
 ⟨(some 19), .conv 3 145 (.tmp 18), none, false⟩,
 ⟨(some 9), .alloc true 145 (.int .u64 0), none, false⟩,
 ⟨none, .store 1 (.tmp 9) (.tmp 19), none, false⟩])
 (.seq (.region false [⟨(some 20), .move (.tmp 8), none, false⟩,
 ⟨(some 21), .call (.func 82) [(.tmp 20)], none, false⟩,
 ⟨(some 10), .move (.tmp 21), none, false⟩])
 (.seq (.region false [⟨(some 22), .move (.tmp 1), none, false⟩,
 ⟨(some 23), .move (.tmp 8), none, false⟩,
 ⟨(some 24), .bin .quo 3 (.tmp 23) (.const (.int .i64 4)), none, false⟩,
 ⟨(some 25), .bin .mul 3 (.tmp 24) (.const (.int .i64 2)), none, false⟩,
 ⟨(some 26), .bin .add 3 (.tmp 22) (.tmp 25), none, false⟩,
 ⟨(some 27), .bin .sub 3 (.tmp 26) (.const (.int .i64 1)), none, false⟩,
 ⟨(some 11), .move (.tmp 27), none, false⟩])
 (.block 0 (.loop ac62_L1)))))
 (.skip)))
theorem text62 : FnText Tryz.prog 62 [9] 67 4 ac62 [] :=
 ⟨Tryz.call62, follows, Tryz.f62, _, Tryz.func62, rfl, rfl, by decide, by kernel_rfl, by kernel_rfl⟩


/-- slices.nextPowerOfTwo -/
def ac82 : AC :=
 .seq (.region false [⟨(some 2), .move (.const (.int .u64 0)), none, false⟩])
 (.seq (.region false [⟨(some 3), .move (.tmp 0), none, false⟩,
 ⟨(some 4), .conv 3 115 (.tmp 3), none, false⟩,
 ⟨(some 5), .call (.func 55) [(.tmp 4)], none, false⟩,
 ⟨(some 6), .bin .shl 115 (.const (.int .u64 1)) (.tmp 5), none, false⟩,
 ⟨(some 2), .move (.tmp 6), none, false⟩])
 (.ret))
theorem text82 : FnText Tryz.prog 82 [] 7 1 ac82 [(2, none)] :=
 ⟨Tryz.call82, follows, Tryz.f82, _, Tryz.func82, rfl, rfl, by decide, by kernel_rfl, by kernel_rfl⟩


/-- (*slices.xorshift).Next -/
def ac83 : AC :=
 .seq (.region false [⟨(some 2), .move (.const (.int .u64 0)), none, false⟩])
 (.seq (.region true [⟨(some 3), .move (.tmp 0), none, false⟩,
 ⟨(some 4), .nilCheck (.tmp 3), none, false⟩,
 ⟨(some 5), .load 1 false (.tmp 4), none, false⟩,
 ⟨(some 6), .move (.tmp 0), none, false⟩,
 ⟨(some 7), .nilCheck (.tmp 6), none, false⟩,
 ⟨(some 8), .load 1 false (.tmp 7), none, false⟩,
 ⟨(some 9), .bin .shl 145 (.tmp 8) (.const (.int .u64 13)), none, false⟩,
 ⟨(some 10), .bin .xor 145 (.tmp 5) (.tmp 9), none, false⟩,
 ⟨(some 11), .nilCheck (.tmp 3), none, false⟩,
 ⟨none, .store 1 (.tmp 11) (.tmp 10), none, false⟩])
 (.seq (.region true [⟨(some 12), .move (.tmp 0), none, false⟩,
 ⟨(some 13), .nilCheck (.tmp 12), none, false⟩,
 ⟨(some 14), .load 1 false (.tmp 13), none, false⟩,
 ⟨(some 15), .move (.tmp 0), none, false⟩,
 ⟨(some 16), .nilCheck (.tmp 15), none, false⟩,
 ⟨(some 17), .load 1 false (.tmp 16), none, false⟩,
 ⟨(some 18), .bin .shr 145 (.tmp 17) (.const (.int .u64 7)), none, false⟩,
 ⟨(some 19), .bin .xor 145 (.tmp 14) (.tmp 18), none, false⟩,
 ⟨(some 20), .nilCheck (.tmp 12), none, false⟩,
 ⟨none, .store 1 (.tmp 20) (.tmp 19), none, false⟩])
 (.seq (.region true [⟨(some 21), .move (.tmp 0), none, false⟩,
 ⟨(some 22), .nilCheck (.tmp 21), none, false⟩,
 ⟨(some 23), .load 1 false (.tmp 22), none, false⟩,
 ⟨(some 24), .move (.tmp 0), none, false⟩,
 ⟨(some 25), .nilCheck (.tmp 24), none, false⟩,
 ⟨(some 26), .load 1 false (.tmp 25), none, false⟩,
 ⟨(some 27), .bin .shl 145 (.tmp 26) (.const (.int .u64 17)), none, false⟩,
 ⟨(some 28), .bin .xor 145 (.tmp 23) (.tmp 27), none, false⟩,
 ⟨(some 29), .nilCheck (.tmp 21), none, false⟩,
 ⟨none, .store 1 (.tmp 29) (.tmp 28), none, false⟩])
 (.seq (.region false [⟨(some 30), .move (.tmp 0), none, false⟩,
 ⟨(some 31), .nilCheck (.tmp 30), none, false⟩,
 ⟨(some 32), .load 1 false (.tmp 31), none, false⟩,
 ⟨(some 2), .move (.tmp 32), none, false⟩])
 (.ret)))))
theorem text83 : FnText Tryz.prog 83 [] 33 1 ac83 [(2, none)] :=
 ⟨Tryz.call83, follows, Tryz.f83, _, Tryz.func83, rfl, rfl, by decide, by kernel_rfl, by kernel_rfl⟩


/-- slices.choosePivotCmpFunc[patchbay/api.FieldRef] -/
def ac63 : AC :=
 .seq (.region false [⟨(some 8), .move (.const (.int .i64 0)), none, false⟩,
 ⟨(some 9), .move (.const (.int .i64 0)), none, false⟩])
 (.seq (.region false [⟨(some 15), .move (.tmp 2), none, false⟩,
 ⟨(some 16), .move (.tmp 1), none, false⟩,
 ⟨(some 17), .bin .sub 3 (.tmp 15) (.tmp 16), none, false⟩,
 ⟨(some 10), .move (.tmp 17), none, false⟩])
 (.seq (.region false [⟨(some 11), .alloc true 3 (.int .i64 0), none, false⟩])
 (.seq (.region false [⟨(some 18), .move (.tmp 1), none, false⟩,
 ⟨(some 19), .move (.tmp 10), none, false⟩,
 ⟨(some 20), .bin .quo 3 (.tmp 19) (.const (.int .i64 4)), none, false⟩,
 ⟨(some 21), .bin .mul 3 (.tmp 20) (.const (.int .i64 1)), none, false⟩,
 ⟨(some 22), .bin .add 3 (.tmp 18) (.tmp 21), none, false⟩,
 ⟨(some 12), .move (.tmp 22), none, false⟩])
 (.seq (.region false [⟨(some 23), .move (.tmp 1), none, false⟩,
 ⟨(some 24), .move (.tmp 10), none, false⟩,
 ⟨(some 25), .bin .quo 3 (.tmp 24) (.const (.int .i64 4)), none, false⟩,
 ⟨(some 26), .bin .mul 3 (.tmp 25) (.const (.int .i64 2)), none, false⟩,
 ⟨(some 27), .bin .add 3 (.tmp 23) (.tmp 26), none, false⟩,
 ⟨(some 13), .move (.tmp 27), none, false⟩])
 (.seq (.region false [⟨(some 28), .move (.tmp 1), none, false⟩,
 ⟨(some 29), .move (.tmp 10), none, false⟩,
 ⟨(some 30), .bin .quo 3 (.tmp 29) (.const (.int .i64 4)), none, false⟩,
 ⟨(some 31), .bin .mul 3 (.tmp 30) (.const (.int .i64 3)), none, false⟩,
 ⟨(some 32), .bin .add 3 (.tmp 28) (.tmp 31), none, false⟩,
 ⟨(some 14), .move (.tmp 32), none, false⟩])
 (.seq (.seq (.region false [⟨(some 33), .move (.tmp 10), none, false⟩,
 ⟨(some 34), .bin .geq 3 (.tmp 33) (.const (.int .i64 8)), none, false⟩])
 (.cond (.tmp 34)
 (.seq (.seq (.region false [⟨(some 35), .move (.tmp 10), none, false⟩,
 ⟨(some 36), .bin .geq 3 (.tmp 35) (.const (.int .i64 50)), none, false⟩])
 (.cond (.tmp 36)
 (.seq (.region false [⟨(some 37), .move (.tmp 0), none, false⟩,
 ⟨(some 38), .move (.tmp 12), none, false⟩,
 ⟨(some 39), .move (.tmp 3), none, false⟩,
 ⟨(some 40), .call (.func 84) [(.tmp 37), (.tmp 38), (.tmp 11), (.tmp 39)], none, false⟩,
 ⟨(some 12), .move (.tmp 40), none, false⟩])
 (.seq (.region false [⟨(some 41), .move (.tmp 0), none, false⟩,
 ⟨(some 42), .move (.tmp 13), none, false⟩,
 ⟨(some 43), .move (.tmp 3), none, false⟩,
 ⟨(some 44), .call (.func 84) [(.tmp 41), (.tmp 42), (.tmp 11), (.tmp 43)], none, false⟩,
 ⟨(some 13), .move (.tmp 44), none, false⟩])
 (.region false [⟨(some 45), .move (.tmp 0), none, false⟩,
 ⟨(some 46), .move (.tmp 14), none, false⟩,
 ⟨(some 47), .move (.tmp 3), none, false⟩,
 ⟨(some 48), .call (.func 84) [(.tmp 45), (.tmp 46), (.tmp 11), (.tmp 47)], none, false⟩,
 ⟨(some 14), .move (.tmp 48), none, false⟩])))
 (.skip)))
 (.region false [⟨(some 49), .move (.tmp 0), none, false⟩,
 ⟨(some 50), .move (.tmp 12), none, false⟩,
 ⟨(some 51), .move (.tmp 13), none, false⟩,
 ⟨(some 52), .move (.tmp 14), none, false⟩,
 ⟨(some 53), .move (.tmp 3), none, false⟩,
 ⟨(some 54), .call (.func 85) [(.tmp 49), (.tmp 50), (.tmp 51), (.tmp 52), (.tmp 11), (.tmp 53)], none, false⟩,
 ⟨(some 13), .move (.tmp 54), none, false⟩]))
 (.skip)))
 (.seq (.region false [⟨(some 55), .load 1 false (.tmp 11), none, false⟩])
 (.block 0 (.seq (.region false [⟨(some 58), .bin .eql 3 (.tmp 55) (.const (.int .i64 0)), none, false⟩,
 ⟨(some 57), .move (.tmp 58), none, false⟩])
 (.cond (.tmp 57)
 (.seq (.region false [⟨(some 59), .move (.tmp 13), none, false⟩,
 ⟨(some 8), .move (.tmp 59), none, false⟩,
 ⟨(some 9), .move (.const (.int .i64 1)), none, false⟩])
 (.ret))
 (.seq (.region false [⟨(some 61), .bin .eql 3 (.tmp 55) (.const (.int .i64 12)), none, false⟩,
 ⟨(some 60), .move (.tmp 61), none, false⟩])
 (.cond (.tmp 60)
 (.seq (.region false [⟨(some 62), .move (.tmp 13), none, false⟩,
 ⟨(some 8), .move (.tmp 62), none, false⟩,
 ⟨(some 9), .move (.const (.int .i64 2)), none, false⟩])
 (.ret))
 (.seq (.region false [⟨(some 56), .move (.tmp 13), none, false⟩,
 ⟨(some 8), .move (.tmp 56), none, false⟩,
 ⟨(some 9), .move (.const (.int .i64 0)), none, false⟩])
 (.ret))))))))))))))
theorem text63 : FnText Tryz.prog 63 [11] 63 4 ac63 [(8, none), (9, none)] :=
 ⟨Tryz.call63, follows, Tryz.f63, _, Tryz.func63, rfl, rfl, by decide, by kernel_rfl, by kernel_rfl⟩


/-- slices.medianAdjacentCmpFunc[patchbay/api.FieldRef] -/
def ac84 : AC :=
 .seq (.region false [⟨(some 8), .move (.const (.int .i64 0)), none, false⟩])
 (.seq (.region false [⟨(some 9), .move (.tmp 0), none, false⟩,
 ⟨(some 10), .move (.tmp 1), none, false⟩,
 ⟨(some 11), .bin .sub 3 (.tmp 10) (.const (.int .i64 1)), none, false⟩,
 ⟨(some 12), .move (.tmp 1), none, false⟩,
 ⟨(some 13), .move (.tmp 1), none, false⟩,
 ⟨(some 14), .bin .add 3 (.tmp 13) (.const (.int .i64 1)), none, false⟩,
 ⟨(some 15), .move (.tmp 2), none, false⟩,
 ⟨(some 16), .move (.tmp 3), none, false⟩,
 ⟨(some 17), .call (.func 85) [(.tmp 9), (.tmp 11), (.tmp 12), (.tmp 14), (.tmp 15), (.tmp 16)], none, false⟩,
 ⟨(some 8), .move (.tmp 17), none, false⟩])
 (.ret))
theorem text84 : FnText Tryz.prog 84 [] 18 4 ac84 [(8, none)] :=
 ⟨Tryz.call84, follows, Tryz.f84, _, Tryz.func84, rfl, rfl, by decide, by kernel_rfl, by kernel_rfl⟩


/-- slices.medianCmpFunc[patchbay/api.FieldRef] -/
def ac85 : AC :=
 .seq (.region false [⟨(some 12), .move (.const (.int .i64 0)), none, false⟩])
 (.seq (.region false [⟨(some 14), .move (.tmp 0), none, false⟩,
 ⟨(some 15), .move (.tmp 1), none, false⟩,
 ⟨(some 16), .move (.tmp 2), none, false⟩,
 ⟨(some 17), .move (.tmp 4), none, false⟩,
 ⟨(some 18), .move (.tmp 5), none, false⟩,
 ⟨(some 19), .call (.func 95) [(.tmp 14), (.tmp 15), (.tmp 16), (.tmp 17), (.tmp 18)], none, false⟩,
 ⟨(some 13), .move (.tmp 19), none, false⟩,
 ⟨(some 20), .extract (.tmp 13) 0, none, false⟩,
 ⟨(some 21), .extract (.tmp 13) 1, none, false⟩,
 ⟨(some 1), .move (.tmp 20), none, false⟩,
 ⟨(some 2), .move (.tmp 21), none, false⟩])
 (.seq (.region false [⟨(some 23), .move (.tmp 0), none, false⟩,
 ⟨(some 24), .move (.tmp 2), none, false⟩,
 ⟨(some 25), .move (.tmp 3), none, false⟩,
 ⟨(some 26), .move (.tmp 4), none, false⟩,
 ⟨(some 27), .move (.tmp 5), none, false⟩,
 ⟨(some 28), .call (.func 95) [(.tmp 23), (.tmp 24), (.tmp 25), (.tmp 26), (.tmp 27)], none, false⟩,
 ⟨(some 22), .move (.tmp 28), none, false⟩,
 ⟨(some 29), .extract (.tmp 22) 0, none, false⟩,
 ⟨(some 30), .extract (.tmp 22) 1, none, false⟩,
 ⟨(some 2), .move (.tmp 29), none, false⟩,
 ⟨(some 3), .move (.tmp 30), none, false⟩])
 (.seq (.region false [⟨(some 32), .move (.tmp 0), none, false⟩,
 ⟨(some 33), .move (.tmp 1), none, false⟩,
 ⟨(some 34), .move (.tmp 2), none, false⟩,
 ⟨(some 35), .move (.tmp 4), none, false⟩,
 ⟨(some 36), .move (.tmp 5), none, false⟩,
 ⟨(some 37), .call (.func 95) [(.tmp 32), (.tmp 33), (.tmp 34), (.tmp 35), (.tmp 36)], none, false⟩,
 ⟨(some 31), .move (.tmp 37), none, false⟩,
 ⟨(some 38), .extract (.tmp 31) 0, none, false⟩,
 ⟨(some 39), .extract (.tmp 31) 1, none, false⟩,
 ⟨(some 1), .move (.tmp 38), none, false⟩,
 ⟨(some 2), .move (.tmp 39), none, false⟩])
 (.seq (.region false [⟨(some 40), .move (.tmp 2), none, false⟩,
 ⟨(some 12), .move (.tmp 40), none, false⟩])
 (.ret)))))
theorem text85 : FnText Tryz.prog 85 [] 41 6 ac85 [(12, none)] :=
 ⟨Tryz.call85, follows, Tryz.f85, _, Tryz.func85, rfl, rfl, by decide, by kernel_rfl, by kernel_rfl⟩


/-- slices.order2CmpFunc[patchbay/api.FieldRef] -/
def ac95 : AC :=
 .seq (.region false [⟨(some 10), .move (.const (.int .i64 0)), none, false⟩,
 ⟨(some 11), .move (.const (.int .i64 0)), none, false⟩])
 (.seq (.seq (.region true [⟨(some 12), .move (.tmp 4), none, false⟩,
 ⟨(some 13), .move (.tmp 0), none, false⟩,
 ⟨(some 14), .move (.tmp 2), none, false⟩,
 ⟨(some 15), .iaddr 2 (.tmp 13) (.tmp 14), none, false⟩,
 ⟨(some 16), .load 2 true (.tmp 15), none, false⟩,
 ⟨(some 17), .move (.tmp 0), none, false⟩,
 ⟨(some 18), .move (.tmp 1), none, false⟩,
 ⟨(some 19), .iaddr 2 (.tmp 17) (.tmp 18), none, false⟩,
 ⟨(some 20), .load 2 true (.tmp 19), none, false⟩,
 ⟨(some 21), .call (.tmp 12) [(.tmp 16), (.tmp 20)], none, false⟩,
 ⟨(some 22), .bin .lss 3 (.tmp 21) (.const (.int .i64 0)), none, false⟩])
 (.cond (.tmp 22)
 (.seq (.region false [⟨(some 23), .move (.tmp 3), none, false⟩,
 ⟨(some 24), .nilCheck (.tmp 23), none, false⟩,
 ⟨(some 25), .load 1 false (.tmp 24), none, false⟩,
 ⟨(some 26), .bin .add 3 (.tmp 25) (.const (.int .i64 1)), none, false⟩,
 ⟨(some 27), .nilCheck (.tmp 23), none, false⟩,
 ⟨none, .store 1 (.tmp 27) (.tmp 26), none, false⟩])
 (.seq (.region false [⟨(some 28), .move (.tmp 2), none, false⟩,
 ⟨(some 29), .move (.tmp 1), none, false⟩,
 ⟨(some 10), .move (.tmp 28), none, false⟩,
 ⟨(some 11), .move (.tmp 29), none, false⟩])
 (.ret)))
 (.skip)))
 (.seq (.region false [⟨(some 30), .move (.tmp 1), none, false⟩,
 ⟨(some 31), .move (.tmp 2), none, false⟩,
 ⟨(some 10), .move (.tmp 30), none, false⟩,
 ⟨(some 11), .move (.tmp 31), none, false⟩])
 (.ret)))
theorem text95 : FnText Tryz.prog 95 [] 32 5 ac95 [(10, none), (11, none)] :=
 ⟨Tryz.call95, follows, Tryz.f95, _, Tryz.func95, rfl, rfl, by decide, by kernel_rfl, by kernel_rfl⟩

def ac64_L1 : AC :=
 .seq (.seq (.region false [⟨(some 13), .move (.tmp 8), none, false⟩,
 ⟨(some 14), .move (.tmp 9), none, false⟩,
 ⟨(some 15), .bin .lss 3 (.tmp 13) (.tmp 14), none, false⟩])
 (.cond (.tmp 15)
 (.skip)
 (.exit 0)))
 (.block 1 (.seq (.region true [⟨(some 16), .move (.tmp 0), none, false⟩,
 ⟨(some 17), .move (.tmp 8), none, false⟩,
 ⟨(some 18), .move (.tmp 0), none, true⟩,
 ⟨(some 19), .move (.tmp 9), none, true⟩,
 ⟨(some 20), .move (.tmp 0), none, false⟩,
 ⟨(some 21), .move (.tmp 9), none, false⟩,
 ⟨(some 22), .iaddr 2 (.tmp 20) (.tmp 21), none, false⟩,
 ⟨(some 23), .load 2 true (.tmp 22), none, false⟩,
 ⟨(some 24), .move (.tmp 0), none, false⟩,
 ⟨(some 25), .move (.tmp 8), none, false⟩,
 ⟨(some 26), .iaddr 2 (.tmp 24) (.tmp 25), none, false⟩,
 ⟨(some 27), .load 2 true (.tmp 26), none, false⟩,
 ⟨(some 28), .iaddr 2 (.tmp 16) (.tmp 17), none, false⟩,
 ⟨none, .store 2 (.tmp 28) (.tmp 23), none, false⟩,
 ⟨(some 29), .iaddr 2 (.tmp 18) (.tmp 19), none, false⟩,
 ⟨none, .store 2 (.tmp 29) (.tmp 27), none, false⟩])
 (.seq (.region false [⟨(some 30), .move (.tmp 8), none, false⟩,
 ⟨(some 31), .bin .add 3 (.tmp 30) (.const (.int .i64 1)), none, false⟩,
 ⟨(some 8), .move (.tmp 31), none, false⟩])
 (.region false [⟨(some 32), .move (.tmp 9), none, false⟩,
 ⟨(some 33), .bin .sub 3 (.tmp 32) (.const (.int .i64 1)), none, false⟩,
 ⟨(some 9), .move (.tmp 33), none, false⟩]))))
/-- slices.reverseRangeCmpFunc[patchbay/api.FieldRef] -/
def ac64 : AC :=
 .seq (.region false [⟨(some 10), .move (.tmp 1), none, false⟩,
 ⟨(some 8), .move (.tmp 10), none, false⟩])
 (.seq (.region false [⟨(some 11), .move (.tmp 2), none, false⟩,
 ⟨(some 12), .bin .sub 3 (.tmp 11) (.const (.int .i64 1)), none, false⟩,
 ⟨(some 9), .move (.tmp 12), none, false⟩])
 (.block 0 (.loop ac64_L1)))
theorem text64 : FnText Tryz.prog 64 [] 34 4 ac64 [] :=
 ⟨Tryz.call64, follows, Tryz.f64, _, Tryz.func64, rfl, rfl, by decide, by kernel_rfl, by kernel_rfl⟩

def ac65_G1 : List AOper :=
 [⟨(some 23), .move (.tmp 3), (some (22, true)), false⟩,
 ⟨(some 24), .move (.tmp 0), (some (22, true)), false⟩,
 ⟨(some 25), .move (.tmp 9), (some (22, true)), false⟩,
 ⟨(some 26), .iaddr 2 (.tmp 24) (.tmp 25), (some (22, true)), false⟩,
 ⟨(some 27), .load 2 true (.tmp 26), (some (22, true)), false⟩,
 ⟨(some 28), .move (.tmp 0), (some (22, true)), false⟩,
 ⟨(some 29), .move (.tmp 9), (some (22, true)), false⟩,
 ⟨(some 30), .bin .sub 3 (.tmp 29) (.const (.int .i64 1)), (some (22, true)), false⟩,
 ⟨(some 31), .iaddr 2 (.tmp 28) (.tmp 30), (some (22, true)), false⟩,
 ⟨(some 32), .load 2 true (.tmp 31), (some (22, true)), false⟩,
 ⟨(some 33), .call (.tmp 23) [(.tmp 27), (.tmp 32)], (some (22, true)), false⟩,
 ⟨(some 34), .bin .lss 3 (.tmp 33) (.const (.int .i64 0)), (some (22, true)), false⟩,
 ⟨(some 35), .un .not (.tmp 34), (some (22, true)), false⟩,
 ⟨(some 36), .pick (.tmp 22) (.tmp 35) (.const (.bool false)), none, false⟩]
def ac65_L2 : AC :=
 .seq (.seq (.region true (⟨(some 19), .move (.tmp 9), none, false⟩ :: ⟨(some 20), .move (.tmp 2), none, false⟩ :: ⟨(some 21), .bin .lss 3 (.tmp 19) (.tmp 20), none, false⟩ :: ⟨(some 22), .move (.tmp 21), none, false⟩ :: (ac65_G1 ++ [])))
 (.cond (.tmp 36)
 (.skip)
 (.exit 2)))
 (.block 3 (.region false [⟨(some 37), .move (.tmp 9), none, false⟩,
 ⟨(some 38), .bin .add 3 (.tmp 37) (.const (.int .i64 1)), none, false⟩,
 ⟨(some 9), .move (.tmp 38), none, false⟩]))
def ac65_L3 : AC :=
 .seq (.seq (.region false [⟨(some 68), .move (.tmp 11), none, false⟩,
 ⟨(some 69), .bin .geq 3 (.tmp 68) (.const (.int .i64 1)), none, false⟩])
 (.cond (.tmp 69)
 (.skip)
 (.exit 4)))
 (.seq (.block 5 (.seq (.seq (.region true [⟨(some 72), .move (.tmp 3), none, false⟩,
 ⟨(some 73), .move (.tmp 0), none, false⟩,
 ⟨(some 74), .move (.tmp 11), none, false⟩,
 ⟨(some 75), .iaddr 2 (.tmp 73) (.tmp 74), none, false⟩,
 ⟨(some 76), .load 2 true (.tmp 75), none, false⟩,
 ⟨(some 77), .move (.tmp 0), none, false⟩,
 ⟨(some 78), .move (.tmp 11), none, false⟩,
 ⟨(some 79), .bin .sub 3 (.tmp 78) (.const (.int .i64 1)), none, false⟩,
 ⟨(some 80), .iaddr 2 (.tmp 77) (.tmp 79), none, false⟩,
 ⟨(some 81), .load 2 true (.tmp 80), none, false⟩,
 ⟨(some 82), .call (.tmp 72) [(.tmp 76), (.tmp 81)], none, false⟩,
 ⟨(some 83), .bin .lss 3 (.tmp 82) (.const (.int .i64 0)), none, false⟩,
 ⟨(some 84), .un .not (.tmp 83), none, false⟩])
 (.cond (.tmp 84)
 (.exit 4)
 (.skip)))
 (.region true [⟨(some 85), .move (.tmp 0), none, false⟩,
 ⟨(some 86), .move (.tmp 11), none, false⟩,
 ⟨(some 87), .move (.tmp 0), none, true⟩,
 ⟨(some 88), .move (.tmp 11), none, true⟩,
 ⟨(some 89), .bin .sub 3 (.tmp 88) (.const (.int .i64 1)), none, true⟩,
 ⟨(some 90), .move (.tmp 0), none, false⟩,
 ⟨(some 91), .move (.tmp 11), none, false⟩,
 ⟨(some 92), .bin .sub 3 (.tmp 91) (.const (.int .i64 1)), none, false⟩,
 ⟨(some 93), .iaddr 2 (.tmp 90) (.tmp 92), none, false⟩,
 ⟨(some 94), .load 2 true (.tmp 93), none, false⟩,
 ⟨(some 95), .move (.tmp 0), none, false⟩,
 ⟨(some 96), .move (.tmp 11), none, false⟩,
 ⟨(some 97), .iaddr 2 (.tmp 95) (.tmp 96), none, false⟩,
 ⟨(some 98), .load 2 true (.tmp 97), none, false⟩,
 ⟨(some 99), .iaddr 2 (.tmp 85) (.tmp 86), none, false⟩,
 ⟨none, .store 2 (.tmp 99) (.tmp 94), none, false⟩,
 ⟨(some 100), .iaddr 2 (.tmp 87) (.tmp 89), none, false⟩,
 ⟨none, .store 2 (.tmp 100) (.tmp 98), none, false⟩])))
 (.region false [⟨(some 70), .move (.tmp 11), none, false⟩,
 ⟨(some 71), .bin .sub 3 (.tmp 70) (.const (.int .i64 1)), none, false⟩,
 ⟨(some 11), .move (.tmp 71), none, false⟩]))
def ac65_L4 : AC :=
 .seq (.seq (.region false [⟨(some 107), .move (.tmp 12), none, false⟩,
 ⟨(some 108), .move (.tmp 2), none, false⟩,
 ⟨(some 109), .bin .lss 3 (.tmp 107) (.tmp 108), none, false⟩])
 (.cond (.tmp 109)
 (.skip)
 (.exit 6)))
 (.seq (.block 7 (.seq (.seq (.region true [⟨(some 112), .move (.tmp 3), none, false⟩,
 ⟨(some 113), .move (.tmp 0), none, false⟩,
 ⟨(some 114), .move (.tmp 12), none, false⟩,
 ⟨(some 115), .iaddr 2 (.tmp 113) (.tmp 114), none, false⟩,
 ⟨(some 116), .load 2 true (.tmp 115), none, false⟩,
 ⟨(some 117), .move (.tmp 0), none, false⟩,
 ⟨(some 118), .move (.tmp 12), none, false⟩,
 ⟨(some 119), .bin .sub 3 (.tmp 118) (.const (.int .i64 1)), none, false⟩,
 ⟨(some 120), .iaddr 2 (.tmp 117) (.tmp 119), none, false⟩,
 ⟨(some 121), .load 2 true (.tmp 120), none, false⟩,
 ⟨(some 122), .call (.tmp 112) [(.tmp 116), (.tmp 121)], none, false⟩,
 ⟨(some 123), .bin .lss 3 (.tmp 122) (.const (.int .i64 0)), none, false⟩,
 ⟨(some 124), .un .not (.tmp 123), none, false⟩])
 (.cond (.tmp 124)
 (.exit 6)
 (.skip)))
 (.region true [⟨(some 125), .move (.tmp 0), none, false⟩,
 ⟨(some 126), .move (.tmp 12), none, false⟩,
 ⟨(some 127), .move (.tmp 0), none, true⟩,
 ⟨(some 128), .move (.tmp 12), none, true⟩,
 ⟨(some 129), .bin .sub 3 (.tmp 128) (.const (.int .i64 1)), none, true⟩,
 ⟨(some 130), .move (.tmp 0), none, false⟩,
 ⟨(some 131), .move (.tmp 12), none, false⟩,
 ⟨(some 132), .bin .sub 3 (.tmp 131) (.const (.int .i64 1)), none, false⟩,
 ⟨(some 133), .iaddr 2 (.tmp 130) (.tmp 132), none, false⟩,
 ⟨(some 134), .load 2 true (.tmp 133), none, false⟩,
 ⟨(some 135), .move (.tmp 0), none, false⟩,
 ⟨(some 136), .move (.tmp 12), none, false⟩,
 ⟨(some 137), .iaddr 2 (.tmp 135) (.tmp 136), none, false⟩,
 ⟨(some 138), .load 2 true (.tmp 137), none, false⟩,
 ⟨(some 139), .iaddr 2 (.tmp 125) (.tmp 126), none, false⟩,
 ⟨none, .store 2 (.tmp 139) (.tmp 134), none, false⟩,
 ⟨(some 140), .iaddr 2 (.tmp 127) (.tmp 129), none, false⟩,
 ⟨none, .store 2 (.tmp 140) (.tmp 138), none, false⟩])))
 (.region false [⟨(some 110), .move (.tmp 12), none, false⟩,
 ⟨(some 111), .bin .add 3 (.tmp 110) (.const (.int .i64 1)), none, false⟩,
 ⟨(some 12), .move (.tmp 111), none, false⟩]))
def ac65_L1 : AC :=
 .seq (.seq (.region false [⟨(some 15), .move (.tmp 10), none, false⟩,
 ⟨(some 16), .bin .lss 3 (.tmp 15) (.const (.int .i64 5)), none, false⟩])
 (.cond (.tmp 16)
 (.skip)
 (.exit 0)))
 (.seq (.block 1 (.seq (.block 2 (.loop ac65_L2))
 (.seq (.seq (.region false [⟨(some 39), .move (.tmp 9), none, false⟩,
 ⟨(some 40), .move (.tmp 2), none, false⟩,
 ⟨(some 41), .bin .eql 3 (.tmp 39) (.tmp 40), none, false⟩])
 (.cond (.tmp 41)
 (.seq (.region false [⟨(some 8), .move (.const (.bool true)), none, false⟩])
 (.ret))
 (.skip)))
 (.seq (.seq (.region false [⟨(some 42), .move (.tmp 2), none, false⟩,
 ⟨(some 43), .move (.tmp 1), none, false⟩,
 ⟨(some 44), .bin .sub 3 (.tmp 42) (.tmp 43), none, false⟩,
 ⟨(some 45), .bin .lss 3 (.tmp 44) (.const (.int .i64 50)), none, false⟩])
 (.cond (.tmp 45)
 (.seq (.region false [⟨(some 8), .move (.const (.bool false)), none, false⟩])
 (.ret))
 (.skip)))
 (.seq (.region true [⟨(some 46), .move (.tmp 0), none, false⟩,
 ⟨(some 47), .move (.tmp 9), none, false⟩,
 ⟨(some 48), .move (.tmp 0), none, true⟩,
 ⟨(some 49), .move (.tmp 9), none, true⟩,
 ⟨(some 50), .bin .sub 3 (.tmp 49) (.const (.int .i64 1)), none, true⟩,
 ⟨(some 51), .move (.tmp 0), none, false⟩,
 ⟨(some 52), .move (.tmp 9), none, false⟩,
 ⟨(some 53), .bin .sub 3 (.tmp 52) (.const (.int .i64 1)), none, false⟩,
 ⟨(some 54), .iaddr 2 (.tmp 51) (.tmp 53), none, false⟩,
 ⟨(some 55), .load 2 true (.tmp 54), none, false⟩,
 ⟨(some 56), .move (.tmp 0), none, false⟩,
 ⟨(some 57), .move (.tmp 9), none, false⟩,
 ⟨(some 58), .iaddr 2 (.tmp 56) (.tmp 57), none, false⟩,
 ⟨(some 59), .load 2 true (.tmp 58), none, false⟩,
 ⟨(some 60), .iaddr 2 (.tmp 46) (.tmp 47), none, false⟩,
 ⟨none, .store 2 (.tmp 60) (.tmp 55), none, false⟩,
 ⟨(some 61), .iaddr 2 (.tmp 48) (.tmp 50), none, false⟩,
 ⟨none, .store 2 (.tmp 61) (.tmp 59), none, false⟩])
 (.seq (.seq (.region false [⟨(some 62), .move (.tmp 9), none, false⟩,
 ⟨(some 63), .move (.tmp 1), none, false⟩,
 ⟨(some 64), .bin .sub 3 (.tmp 62) (.tmp 63), none, false⟩,
 ⟨(some 65), .bin .geq 3 (.tmp 64) (.const (.int .i64 2)), none, false⟩])
 (.cond (.tmp 65)
 (.seq (.region false [⟨(some 66), .move (.tmp 9), none, false⟩,
 ⟨(some 67), .bin .sub 3 (.tmp 66) (.const (.int .i64 1)), none, false⟩,
 ⟨(some 11), .move (.tmp 67), none, false⟩])
 (.block 4 (.loop ac65_L3)))
 (.skip)))
 (.seq (.region false [⟨(some 101), .move (.tmp 2), none, false⟩,
 ⟨(some 102), .move (.tmp 9), none, false⟩,
 ⟨(some 103), .bin .sub 3 (.tmp 101) (.tmp 102), none, false⟩,
 ⟨(some 104), .bin .geq 3 (.tmp 103) (.const (.int .i64 2)), none, false⟩])
 (.cond (.tmp 104)
 (.seq (.region false [⟨(some 105), .move (.tmp 9), none, false⟩,
 ⟨(some 106), .bin .add 3 (.tmp 105) (.const (.int .i64 1)), none, false⟩,
 ⟨(some 12), .move (.tmp 106), none, false⟩])
 (.block 6 (.loop ac65_L4)))
 (.skip)))))))))
 (.region false [⟨(some 17), .move (.tmp 10), none, false⟩,
 ⟨(some 18), .bin .add 3 (.tmp 17) (.const (.int .i64 1)), none, false⟩,
 ⟨(some 10), .move (.tmp 18), none, false⟩]))
/-- slices.partialInsertionSortCmpFunc[patchbay/api.FieldRef] -/
def ac65 : AC :=
 .seq (.region false [⟨(some 8), .move (.const (.bool false)), none, false⟩])
 (.seq (.region false [⟨(some 13), .move (.tmp 1), none, false⟩,
 ⟨(some 14), .bin .add 3 (.tmp 13) (.const (.int .i64 1)), none, false⟩,
 ⟨(some 9), .move (.tmp 14), none, false⟩])
 (.seq (.seq (.region false [⟨(some 10), .move (.const (.int .i64 0)), none, false⟩])
 (.block 0 (.loop ac65_L1)))
 (.seq (.region false [⟨(some 8), .move (.const (.bool false)), none, false⟩])
 (.ret))))
theorem text65 : FnText Tryz.prog 65 [] 141 4 ac65 [(8, none)] :=
 ⟨Tryz.call65, follows, Tryz.f65, _, Tryz.func65, rfl, rfl, by decide, by kernel_rfl, by kernel_rfl⟩

def ac66_G1 : List AOper :=
 [⟨(some 35), .move (.tmp 4), (some (34, true)), false⟩,
 ⟨(some 36), .move (.tmp 0), (some (34, true)), false⟩,
 ⟨(some 37), .move (.tmp 1), (some (34, true)), false⟩,
 ⟨(some 38), .iaddr 2 (.tmp 36) (.tmp 37), (some (34, true)), false⟩,
 ⟨(some 39), .load 2 true (.tmp 38), (some (34, true)), false⟩,
 ⟨(some 40), .move (.tmp 0), (some (34, true)), false⟩,
 ⟨(some 41), .move (.tmp 11), (some (34, true)), false⟩,
 ⟨(some 42), .iaddr 2 (.tmp 40) (.tmp 41), (some (34, true)), false⟩,
 ⟨(some 43), .load 2 true (.tmp 42), (some (34, true)), false⟩,
 ⟨(some 44), .call (.tmp 35) [(.tmp 39), (.tmp 43)], (some (34, true)), false⟩,
 ⟨(some 45), .bin .lss 3 (.tmp 44) (.const (.int .i64 0)), (some (34, true)), false⟩,
 ⟨(some 46), .un .not (.tmp 45), (some (34, true)), false⟩,
 ⟨(some 47), .pick (.tmp 34) (.tmp 46) (.const (.bool false)), none, false⟩]
def ac66_L2 : AC :=
 .seq (.seq (.region true (⟨(some 31), .move (.tmp 11), none, false⟩ :: ⟨(some 32), .move (.tmp 12), none, false⟩ :: ⟨(some 33), .bin .leq 3 (.tmp 31) (.tmp 32), none, false⟩ :: ⟨(some 34), .move (.tmp 33), none, false⟩ :: (ac66_G1 ++ [])))
 (.cond (.tmp 47)
 (.skip)
 (.exit 2)))
 (.block 3 (.region false [⟨(some 48), .move (.tmp 11), none, false⟩,
 ⟨(some 49), .bin .add 3 (.tmp 48) (.const (.int .i64 1)), none, false⟩,
 ⟨(some 11), .move (.tmp 49), none, false⟩]))
def ac66_G2 : List AOper :=
 [⟨(some 54), .move (.tmp 4), (some (53, true)), false⟩,
 ⟨(some 55), .move (.tmp 0), (some (53, true)), false⟩,
 ⟨(some 56), .move (.tmp 1), (some (53, true)), false⟩,
 ⟨(some 57), .iaddr 2 (.tmp 55) (.tmp 56), (some (53, true)), false⟩,
 ⟨(some 58), .load 2 true (.tmp 57), (some (53, true)), false⟩,
 ⟨(some 59), .move (.tmp 0), (some (53, true)), false⟩,
 ⟨(some 60), .move (.tmp 12), (some (53, true)), false⟩,
 ⟨(some 61), .iaddr 2 (.tmp 59) (.tmp 60), (some (53, true)), false⟩,
 ⟨(some 62), .load 2 true (.tmp 61), (some (53, true)), false⟩,
 ⟨(some 63), .call (.tmp 54) [(.tmp 58), (.tmp 62)], (some (53, true)), false⟩,
 ⟨(some 64), .bin .lss 3 (.tmp 63) (.const (.int .i64 0)), (some (53, true)), false⟩,
 ⟨(some 65), .pick (.tmp 53) (.tmp 64) (.const (.bool false)), none, false⟩]
def ac66_L3 : AC :=
 .seq (.seq (.region true (⟨(some 50), .move (.tmp 11), none, false⟩ :: ⟨(some 51), .move (.tmp 12), none, false⟩ :: ⟨(some 52), .bin .leq 3 (.tmp 50) (.tmp 51), none, false⟩ :: ⟨(some 53), .move (.tmp 52), none, false⟩ :: (ac66_G2 ++ [])))
 (.cond (.tmp 65)
 (.skip)
 (.exit 4)))
 (.block 5 (.region false [⟨(some 66), .move (.tmp 12), none, false⟩,
 ⟨(some 67), .bin .sub 3 (.tmp 66) (.const (.int .i64 1)), none, false⟩,
 ⟨(some 12), .move (.tmp 67), none, false⟩]))
def ac66_L1 : AC :=
 .block 1 (.seq (.block 2 (.loop ac66_L2))
 (.seq (.block 4 (.loop ac66_L3))
 (.seq (.seq (.region false [⟨(some 68), .move (.tmp 11), none, false⟩,
 ⟨(some 69), .move (.tmp 12), none, false⟩,
 ⟨(some 70), .bin .gtr 3 (.tmp 68) (.tmp 69), none, false⟩])
 (.cond (.tmp 70)
 (.exit 0)
 (.skip)))
 (.seq (.region true [⟨(some 71), .move (.tmp 0), none, false⟩,
 ⟨(some 72), .move (.tmp 11), none, false⟩,
 ⟨(some 73), .move (.tmp 0), none, true⟩,
 ⟨(some 74), .move (.tmp 12), none, true⟩,
 ⟨(some 75), .move (.tmp 0), none, false⟩,
 ⟨(some 76), .move (.tmp 12), none, false⟩,
 ⟨(some 77), .iaddr 2 (.tmp 75) (.tmp 76), none, false⟩,
 ⟨(some 78), .load 2 true (.tmp 77), none, false⟩,
 ⟨(some 79), .move (.tmp 0), none, false⟩,
 ⟨(some 80), .move (.tmp 11), none, false⟩,
 ⟨(some 81), .iaddr 2 (.tmp 79) (.tmp 80), none, false⟩,
 ⟨(some 82), .load 2 true (.tmp 81), none, false⟩,
 ⟨(some 83), .iaddr 2 (.tmp 71) (.tmp 72), none, false⟩,
 ⟨none, .store 2 (.tmp 83) (.tmp 78), none, false⟩,
 ⟨(some 84), .iaddr 2 (.tmp 73) (.tmp 74), none, false⟩,
 ⟨none, .store 2 (.tmp 84) (.tmp 82), none, false⟩])
 (.seq (.region false [⟨(some 85), .move (.tmp 11), none, false⟩,
 ⟨(some 86), .bin .add 3 (.tmp 85) (.const (.int .i64 1)), none, false⟩,
 ⟨(some 11), .move (.tmp 86), none, false⟩])
 (.region false [⟨(some 87), .move (.tmp 12), none, false⟩,
 ⟨(some 88), .bin .sub 3 (.tmp 87) (.const (.int .i64 1)), none, false⟩,
 ⟨(some 12), .move (.tmp 88), none, false⟩]))))))
/-- slices.partitionEqualCmpFunc[patchbay/api.FieldRef] -/
def ac66 : AC :=
 .seq (.region false [⟨(some 10), .move (.const (.int .i64 0)), none, false⟩])
 (.seq (.region true [⟨(some 13), .move (.tmp 0), none, false⟩,
 ⟨(some 14), .move (.tmp 1), none, false⟩,
 ⟨(some 15), .move (.tmp 0), none, true⟩,
 ⟨(some 16), .move (.tmp 3), none, true⟩,
 ⟨(some 17), .move (.tmp 0), none, false⟩,
 ⟨(some 18), .move (.tmp 3), none, false⟩,
 ⟨(some 19), .iaddr 2 (.tmp 17) (.tmp 18), none, false⟩,
 ⟨(some 20), .load 2 true (.tmp 19), none, false⟩,
 ⟨(some 21), .move (.tmp 0), none, false⟩,
 ⟨(some 22), .move (.tmp 1), none, false⟩,
 ⟨(some 23), .iaddr 2 (.tmp 21) (.tmp 22), none, false⟩,
 ⟨(some 24), .load 2 true (.tmp 23), none, false⟩,
 ⟨(some 25), .iaddr 2 (.tmp 13) (.tmp 14), none, false⟩,
 ⟨none, .store 2 (.tmp 25) (.tmp 20), none, false⟩,
 ⟨(some 26), .iaddr 2 (.tmp 15) (.tmp 16), none, false⟩,
 ⟨none, .store 2 (.tmp 26) (.tmp 24), none, false⟩])
 (.seq (.region false [⟨(some 27), .move (.tmp 1), none, false⟩,
 ⟨(some 28), .bin .add 3 (.tmp 27) (.const (.int .i64 1)), none, false⟩,
 ⟨(some 29), .move (.tmp 2), none, false⟩,
 ⟨(some 30), .bin .sub 3 (.tmp 29) (.const (.int .i64 1)), none, false⟩,
 ⟨(some 11), .move (.tmp 28), none, false⟩,
 ⟨(some 12), .move (.tmp 30), none, false⟩])
 (.seq (.block 0 (.loop ac66_L1))
 (.seq (.region false [⟨(some 89), .move (.tmp 11), none, false⟩,
 ⟨(some 10), .move (.tmp 89), none, false⟩])
 (.ret)))))
theorem text66 : FnText Tryz.prog 66 [] 90 5 ac66 [(10, none)] :=
 ⟨Tryz.call66, follows, Tryz.f66, _, Tryz.func66, rfl, rfl, by decide, by kernel_rfl, by kernel_rfl⟩

def ac67_G1 : List AOper :=
 [⟨(some 36), .move (.tmp 4), (some (35, true)), false⟩,
 ⟨(some 37), .move (.tmp 0), (some (35, true)), false⟩,
 ⟨(some 38), .move (.tmp 12), (some (35, true)), false⟩,
 ⟨(some 39), .iaddr 2 (.tmp 37) (.tmp 38), (some (35, true)), false⟩,
 ⟨(some 40), .load 2 true (.tmp 39), (some (35, true)), false⟩,
 ⟨(some 41), .move (.tmp 0), (some (35, true)), false⟩,
 ⟨(some 42), .move (.tmp 1), (some (35, true)), false⟩,
 ⟨(some 43), .iaddr 2 (.tmp 41) (.tmp 42), (some (35, true)), false⟩,
 ⟨(some 44), .load 2 true (.tmp 43), (some (35, true)), false⟩,
 ⟨(some 45), .call (.tmp 36) [(.tmp 40), (.tmp 44)], (some (35, true)), false⟩,
 ⟨(some 46), .bin .lss 3 (.tmp 45) (.const (.int .i64 0)), (some (35, true)), false⟩,
 ⟨(some 47), .pick (.tmp 35) (.tmp 46) (.const (.bool false)), none, false⟩]
def ac67_L1 : AC :=
 .seq (.seq (.region true (⟨(some 32), .move (.tmp 12), none, false⟩ :: ⟨(some 33), .move (.tmp 13), none, false⟩ :: ⟨(some 34), .bin .leq 3 (.tmp 32) (.tmp 33), none, false⟩ :: ⟨(some 35), .move (.tmp 34), none, false⟩ :: (ac67_G1 ++ [])))
 (.cond (.tmp 47)
 (.skip)
 (.exit 0)))
 (.block 1 (.region false [⟨(some 48), .move (.tmp 12), none, false⟩,
 ⟨(some 49), .bin .add 3 (.tmp 48) (.const (.int .i64 1)), none, false⟩,
 ⟨(some 12), .move (.tmp 49), none, false⟩]))
def ac67_G2 : List AOper :=
 [⟨(some 54), .move (.tmp 4), (some (53, true)), false⟩,
 ⟨(some 55), .move (.tmp 0), (some (53, true)), false⟩,
 ⟨(some 56), .move (.tmp 13), (some (53, true)), false⟩,
 ⟨(some 57), .iaddr 2 (.tmp 55) (.tmp 56), (some (53, true)), false⟩,
 ⟨(some 58), .load 2 true (.tmp 57), (some (53, true)), false⟩,
 ⟨(some 59), .move (.tmp 0), (some (53, true)), false⟩,
 ⟨(some 60), .move (.tmp 1), (some (53, true)), false⟩,
 ⟨(some 61), .iaddr 2 (.tmp 59) (.tmp 60), (some (53, true)), false⟩,
 ⟨(some 62), .load 2 true (.tmp 61), (some (53, true)), false⟩,
 ⟨(some 63), .call (.tmp 54) [(.tmp 58), (.tmp 62)], (some (53, true)), false⟩,
 ⟨(some 64), .bin .lss 3 (.tmp 63) (.const (.int .i64 0)), (some (53, true)), false⟩,
 ⟨(some 65), .un .not (.tmp 64), (some (53, true)), false⟩,
 ⟨(some 66), .pick (.tmp 53) (.tmp 65) (.const (.bool false)), none, false⟩]
def ac67_L2 : AC :=
 .seq (.seq (.region true (⟨(some 50), .move (.tmp 12), none, false⟩ :: ⟨(some 51), .move (.tmp 13), none, false⟩ :: ⟨(some 52), .bin .leq 3 (.tmp 50) (.tmp 51), none, false⟩ :: ⟨(some 53), .move (.tmp 52), none, false⟩ :: (ac67_G2 ++ [])))
 (.cond (.tmp 66)
 (.skip)
 (.exit 2)))
 (.block 3 (.region false [⟨(some 67), .move (.tmp 13), none, false⟩,
 ⟨(some 68), .bin .sub 3 (.tmp 67) (.const (.int .i64 1)), none, false⟩,
 ⟨(some 13), .move (.tmp 68), none, false⟩]))
def ac67_G3 : List AOper :=
 [⟨(some 109), .move (.tmp 4), (some (108, true)), false⟩,
 ⟨(some 110), .move (.tmp 0), (some (108, true)), false⟩,
 ⟨(some 111), .move (.tmp 12), (some (108, true)), false⟩,
 ⟨(some 112), .iaddr 2 (.tmp 110) (.tmp 111), (some (108, true)), false⟩,
 ⟨(some 113), .load 2 true (.tmp 112), (some (108, true)), false⟩,
 ⟨(some 114), .move (.tmp 0), (some (108, true)), false⟩,
 ⟨(some 115), .move (.tmp 1), (some (108, true)), false⟩,
 ⟨(some 116), .iaddr 2 (.tmp 114) (.tmp 115), (some (108, true)), false⟩,
 ⟨(some 117), .load 2 true (.tmp 116), (some (108, true)), false⟩,
 ⟨(some 118), .call (.tmp 109) [(.tmp 113), (.tmp 117)], (some (108, true)), false⟩,
 ⟨(some 119), .bin .lss 3 (.tmp 118) (.const (.int .i64 0)), (some (108, true)), false⟩,
 ⟨(some 120), .pick (.tmp 108) (.tmp 119) (.const (.bool false)), none, false⟩]
def ac67_L4 : AC :=
 .seq (.seq (.region true (⟨(some 105), .move (.tmp 12), none, false⟩ :: ⟨(some 106), .move (.tmp 13), none, false⟩ :: ⟨(some 107), .bin .leq 3 (.tmp 105) (.tmp 106), none, false⟩ :: ⟨(some 108), .move (.tmp 107), none, false⟩ :: (ac67_G3 ++ [])))
 (.cond (.tmp 120)
 (.skip)
 (.exit 6)))
 (.block 7 (.region false [⟨(some 121), .move (.tmp 12), none, false⟩,
 ⟨(some 122), .bin .add 3 (.tmp 121) (.const (.int .i64 1)), none, false⟩,
 ⟨(some 12), .move (.tmp 122), none, false⟩]))
def ac67_G4 : List AOper :=
 [⟨(some 127), .move (.tmp 4), (some (126, true)), false⟩,
 ⟨(some 128), .move (.tmp 0), (some (126, true)), false⟩,
 ⟨(some 129), .move (.tmp 13), (some (126, true)), false⟩,
 ⟨(some 130), .iaddr 2 (.tmp 128) (.tmp 129), (some (126, true)), false⟩,
 ⟨(some 131), .load 2 true (.tmp 130), (some (126, true)), false⟩,
 ⟨(some 132), .move (.tmp 0), (some (126, true)), false⟩,
 ⟨(some 133), .move (.tmp 1), (some (126, true)), false⟩,
 ⟨(some 134), .iaddr 2 (.tmp 132) (.tmp 133), (some (126, true)), false⟩,
 ⟨(some 135), .load 2 true (.tmp 134), (some (126, true)), false⟩,
 ⟨(some 136), .call (.tmp 127) [(.tmp 131), (.tmp 135)], (some (126, true)), false⟩,
 ⟨(some 137), .bin .lss 3 (.tmp 136) (.const (.int .i64 0)), (some (126, true)), false⟩,
 ⟨(some 138), .un .not (.tmp 137), (some (126, true)), false⟩,
 ⟨(some 139), .pick (.tmp 126) (.tmp 138) (.const (.bool false)), none, false⟩]
def ac67_L5 : AC :=
 .seq (.seq (.region true (⟨(some 123), .move (.tmp 12), none, false⟩ :: ⟨(some 124), .move (.tmp 13), none, false⟩ :: ⟨(some 125), .bin .leq 3 (.tmp 123) (.tmp 124), none, false⟩ :: ⟨(some 126), .move (.tmp 125), none, false⟩ :: (ac67_G4 ++ [])))
 (.cond (.tmp 139)
 (.skip)
 (.exit 8)))
 (.block 9 (.region false [⟨(some 140), .move (.tmp 13), none, false⟩,
 ⟨(some 141), .bin .sub 3 (.tmp 140) (.const (.int .i64 1)), none, false⟩,
 ⟨(some 13), .move (.tmp 141), none, false⟩]))
def ac67_L3 : AC :=
 .block 5 (.seq (.block 6 (.loop ac67_L4))
 (.seq (.block 8 (.loop ac67_L5))
 (.seq (.seq (.region false [⟨(some 142), .move (.tmp 12), none, false⟩,
 ⟨(some 143), .move (.tmp 13), none, false⟩,
 ⟨(some 144), .bin .gtr 3 (.tmp 142) (.tmp 143), none, false⟩])
 (.cond (.tmp 144)
 (.exit 4)
 (.skip)))
 (.seq (.region true [⟨(some 145), .move (.tmp 0), none, false⟩,
 ⟨(some 146), .move (.tmp 12), none, false⟩,
 ⟨(some 147), .move (.tmp 0), none, true⟩,
 ⟨(some 148), .move (.tmp 13), none, true⟩,
 ⟨(some 149), .move (.tmp 0), none, false⟩,
 ⟨(some 150), .move (.tmp 13), none, false⟩,
 ⟨(some 151), .iaddr 2 (.tmp 149) (.tmp 150), none, false⟩,
 ⟨(some 152), .load 2 true (.tmp 151), none, false⟩,
 ⟨(some 153), .move (.tmp 0), none, false⟩,
 ⟨(some 154), .move (.tmp 12), none, false⟩,
 ⟨(some 155), .iaddr 2 (.tmp 153) (.tmp 154), none, false⟩,
 ⟨(some 156), .load 2 true (.tmp 155), none, false⟩,
 ⟨(some 157), .iaddr 2 (.tmp 145) (.tmp 146), none, false⟩,
 ⟨none, .store 2 (.tmp 157) (.tmp 152), none, false⟩,
 ⟨(some 158), .iaddr 2 (.tmp 147) (.tmp 148), none, false⟩,
 ⟨none, .store 2 (.tmp 158) (.tmp 156), none, false⟩])
 (.seq (.region false [⟨(some 159), .move (.tmp 12), none, false⟩,
 ⟨(some 160), .bin .add 3 (.tmp 159) (.const (.int .i64 1)), none, false⟩,
 ⟨(some 12), .move (.tmp 160), none, false⟩])
 (.region false [⟨(some 161), .move (.tmp 13), none, false⟩,
 ⟨(some 162), .bin .sub 3 (.tmp 161) (.const (.int .i64 1)), none, false⟩,
 ⟨(some 13), .move (.tmp 162), none, false⟩]))))))
/-- slices.partitionCmpFunc[patchbay/api.FieldRef] -/
def ac67 : AC :=
 .seq (.region false [⟨(some 10), .move (.const (.int .i64 0)), none, false⟩,
 ⟨(some 11), .move (.const (.bool false)), none, false⟩])
 (.seq (.region true [⟨(some 14), .move (.tmp 0), none, false⟩,
 ⟨(some 15), .move (.tmp 1), none, false⟩,
 ⟨(some 16), .move (.tmp 0), none, true⟩,
 ⟨(some 17), .move (.tmp 3), none, true⟩,
 ⟨(some 18), .move (.tmp 0), none, false⟩,
 ⟨(some 19), .move (.tmp 3), none, false⟩,
 ⟨(some 20), .iaddr 2 (.tmp 18) (.tmp 19), none, false⟩,
 ⟨(some 21), .load 2 true (.tmp 20), none, false⟩,
 ⟨(some 22), .move (.tmp 0), none, false⟩,
 ⟨(some 23), .move (.tmp 1), none, false⟩,
 ⟨(some 24), .iaddr 2 (.tmp 22) (.tmp 23), none, false⟩,
 ⟨(some 25), .load 2 true (.tmp 24), none, false⟩,
 ⟨(some 26), .iaddr 2 (.tmp 14) (.tmp 15), none, false⟩,
 ⟨none, .store 2 (.tmp 26) (.tmp 21), none, false⟩,
 ⟨(some 27), .iaddr 2 (.tmp 16) (.tmp 17), none, false⟩,
 ⟨none, .store 2 (.tmp 27) (.tmp 25), none, false⟩])
 (.seq (.region false [⟨(some 28), .move (.tmp 1), none, false⟩,
 ⟨(some 29), .bin .add 3 (.tmp 28) (.const (.int .i64 1)), none, false⟩,
 ⟨(some 30), .move (.tmp 2), none, false⟩,
 ⟨(some 31), .bin .sub 3 (.tmp 30) (.const (.int .i64 1)), none, false⟩,
 ⟨(some 12), .move (.tmp 29), none, false⟩,
 ⟨(some 13), .move (.tmp 31), none, false⟩])
 (.seq (.block 0 (.loop ac67_L1))
 (.seq (.block 2 (.loop ac67_L2))
 (.seq (.seq (.region false [⟨(some 69), .move (.tmp 12), none, false⟩,
 ⟨(some 70), .move (.tmp 13), none, false⟩,
 ⟨(some 71), .bin .gtr 3 (.tmp 69) (.tmp 70), none, false⟩])
 (.cond (.tmp 71)
 (.seq (.region true [⟨(some 72), .move (.tmp 0), none, false⟩,
 ⟨(some 73), .move (.tmp 13), none, false⟩,
 ⟨(some 74), .move (.tmp 0), none, true⟩,
 ⟨(some 75), .move (.tmp 1), none, true⟩,
 ⟨(some 76), .move (.tmp 0), none, false⟩,
 ⟨(some 77), .move (.tmp 1), none, false⟩,
 ⟨(some 78), .iaddr 2 (.tmp 76) (.tmp 77), none, false⟩,
 ⟨(some 79), .load 2 true (.tmp 78), none, false⟩,
 ⟨(some 80), .move (.tmp 0), none, false⟩,
 ⟨(some 81), .move (.tmp 13), none, false⟩,
 ⟨(some 82), .iaddr 2 (.tmp 80) (.tmp 81), none, false⟩,
 ⟨(some 83), .load 2 true (.tmp 82), none, false⟩,
 ⟨(some 84), .iaddr 2 (.tmp 72) (.tmp 73), none, false⟩,
 ⟨none, .store 2 (.tmp 84) (.tmp 79), none, false⟩,
 ⟨(some 85), .iaddr 2 (.tmp 74) (.tmp 75), none, false⟩,
 ⟨none, .store 2 (.tmp 85) (.tmp 83), none, false⟩])
 (.seq (.region false [⟨(some 86), .move (.tmp 13), none, false⟩,
 ⟨(some 10), .move (.tmp 86), none, false⟩,
 ⟨(some 11), .move (.const (.bool true)), none, false⟩])
 (.ret)))
 (.skip)))
 (.seq (.region true [⟨(some 87), .move (.tmp 0), none, false⟩,
 ⟨(some 88), .move (.tmp 12), none, false⟩,
 ⟨(some 89), .move (.tmp 0), none, true⟩,
 ⟨(some 90), .move (.tmp 13), none, true⟩,
 ⟨(some 91), .move (.tmp 0), none, false⟩,
 ⟨(some 92), .move (.tmp 13), none, false⟩,
 ⟨(some 93), .iaddr 2 (.tmp 91) (.tmp 92), none, false⟩,
 ⟨(some 94), .load 2 true (.tmp 93), none, false⟩,
 ⟨(some 95), .move (.tmp 0), none, false⟩,
 ⟨(some 96), .move (.tmp 12), none, false⟩,
 ⟨(some 97), .iaddr 2 (.tmp 95) (.tmp 96), none, false⟩,
 ⟨(some 98), .load 2 true (.tmp 97), none, false⟩,
 ⟨(some 99), .iaddr 2 (.tmp 87) (.tmp 88), none, false⟩,
 ⟨none, .store 2 (.tmp 99) (.tmp 94), none, false⟩,
 ⟨(some 100), .iaddr 2 (.tmp 89) (.tmp 90), none, false⟩,
 ⟨none, .store 2 (.tmp 100) (.tmp 98), none, false⟩])
 (.seq (.region false [⟨(some 101), .move (.tmp 12), none, false⟩,
 ⟨(some 102), .bin .add 3 (.tmp 101) (.const (.int .i64 1)), none, false⟩,
 ⟨(some 12), .move (.tmp 102), none, false⟩])
 (.seq (.region false [⟨(some 103), .move (.tmp 13), none, false⟩,
 ⟨(some 104), .bin .sub 3 (.tmp 103) (.const (.int .i64 1)), none, false⟩,
 ⟨(some 13), .move (.tmp 104), none, false⟩])
 (.seq (.block 4 (.loop ac67_L3))
 (.seq (.region true [⟨(some 163), .move (.tmp 0), none, false⟩,
 ⟨(some 164), .move (.tmp 13), none, false⟩,
 ⟨(some 165), .move (.tmp 0), none, true⟩,
 ⟨(some 166), .move (.tmp 1), none, true⟩,
 ⟨(some 167), .move (.tmp 0), none, false⟩,
 ⟨(some 168), .move (.tmp 1), none, false⟩,
 ⟨(some 169), .iaddr 2 (.tmp 167) (.tmp 168), none, false⟩,
 ⟨(some 170), .load 2 true (.tmp 169), none, false⟩,
 ⟨(some 171), .move (.tmp 0), none, false⟩,
 ⟨(some 172), .move (.tmp 13), none, false⟩,
 ⟨(some 173), .iaddr 2 (.tmp 171) (.tmp 172), none, false⟩,
 ⟨(some 174), .load 2 true (.tmp 173), none, false⟩,
 ⟨(some 175), .iaddr 2 (.tmp 163) (.tmp 164), none, false⟩,
 ⟨none, .store 2 (.tmp 175) (.tmp 170), none, false⟩,
 ⟨(some 176), .iaddr 2 (.tmp 165) (.tmp 166), none, false⟩,
 ⟨none, .store 2 (.tmp 176) (.tmp 174), none, false⟩])
 (.seq (.region false [⟨(some 177), .move (.tmp 13), none, false⟩,
 ⟨(some 10), .move (.tmp 177), none, false⟩,
 ⟨(some 11), .move (.const (.bool false)), none, false⟩])
 (.ret))))))))))))
theorem text67 : FnText Tryz.prog 67 [] 178 5 ac67 [(10, none), (11, none)] :=
 ⟨Tryz.call67, follows, Tryz.f67, _, Tryz.func67, rfl, rfl, by decide, by kernel_rfl, by kernel_rfl⟩


/-- patchbay/expr.Fields$1 -/
def ac43 : AC :=
 .seq (.region false [⟨(some 2), .box false 33 (.tmp 0), none, false⟩,
 ⟨(some 3), .box false 33 (.tmp 1), none, false⟩,
 ⟨(some 4), .move (.const (.int .i64 0)), none, false⟩])
 (.seq (.region true [⟨(some 5), .faddr 0 1 false (.tmp 2), none, false⟩,
 ⟨(some 6), .load 1 false (.tmp 5), none, false⟩,
 ⟨(some 7), .faddr 0 1 false (.tmp 3), none, false⟩,
 ⟨(some 8), .load 1 false (.tmp 7), none, false⟩,
 ⟨(some 9), .call (.func 45) [(.tmp 6), (.tmp 8)], none, false⟩,
 ⟨(some 10), .faddr 1 1 false (.tmp 2), none, false⟩,
 ⟨(some 11), .load 1 false (.tmp 10), none, false⟩,
 ⟨(some 12), .faddr 1 1 false (.tmp 3), none, false⟩,
 ⟨(some 13), .load 1 false (.tmp 12), none, false⟩,
 ⟨(some 14), .call (.func 45) [(.tmp 11), (.tmp 13)], none, false⟩,
 ⟨(some 15), .bslice false 3 1 false [(.tmp 9), (.tmp 14)], none, false⟩,
 ⟨(some 16), .call (.func 44) [(.tmp 15)], none, false⟩,
 ⟨(some 4), .move (.tmp 16), none, false⟩])
 (.ret))
theorem text43 : FnText Tryz.prog 43 [] 17 2 ac43 [(4, none)] :=
 ⟨Tryz.call43, follows, Tryz.f43, _, Tryz.func43, rfl, rfl, by decide, by kernel_rfl, by kernel_rfl⟩


/-- cmp.Compare[int] -/
def ac45 : AC :=
 .seq (.region false [⟨(some 4), .move (.const (.int .i64 0)), none, false⟩])
 (.seq (.region false [⟨(some 7), .move (.tmp 0), none, false⟩,
 ⟨(some 8), .call (.func 56) [(.tmp 7)], none, false⟩,
 ⟨(some 5), .move (.tmp 8), none, false⟩])
 (.seq (.region false [⟨(some 9), .move (.tmp 1), none, false⟩,
 ⟨(some 10), .call (.func 56) [(.tmp 9)], none, false⟩,
 ⟨(some 6), .move (.tmp 10), none, false⟩])
 (.seq (.seq (.region false [⟨(some 11), .move (.tmp 5), none, false⟩])
 (.cond (.tmp 11)
 (.seq (.seq (.region false [⟨(some 12), .move (.tmp 6), none, false⟩])
 (.cond (.tmp 12)
 (.seq (.region false [⟨(some 4), .move (.const (.int .i64 0)), none, false⟩])
 (.ret))
 (.skip)))
 (.seq (.region false [⟨(some 4), .move (.const (.int .i64 (-1))), none, false⟩])
 (.ret)))
 (.skip)))
 (.seq (.seq (.region false [⟨(some 13), .move (.tmp 6), none, false⟩])
 (.cond (.tmp 13)
 (.seq (.region false [⟨(some 4), .move (.const (.int .i64 1)), none, false⟩])
 (.ret))
 (.skip)))
 (.seq (.seq (.region false [⟨(some 14), .move (.tmp 0), none, false⟩,
 ⟨(some 15), .move (.tmp 1), none, false⟩,
 ⟨(some 16), .bin .lss 3 (.tmp 14) (.tmp 15), none, false⟩])
 (.cond (.tmp 16)
 (.seq (.region false [⟨(some 4), .move (.const (.int .i64 (-1))), none, false⟩])
 (.ret))
 (.skip)))
 (.seq (.seq (.region false [⟨(some 17), .move (.tmp 0), none, false⟩,
 ⟨(some 18), .move (.tmp 1), none, false⟩,
 ⟨(some 19), .bin .gtr 3 (.tmp 17) (.tmp 18), none, false⟩])
 (.cond (.tmp 19)
 (.seq (.region false [⟨(some 4), .move (.const (.int .i64 1)), none, false⟩])
 (.ret))
 (.skip)))
 (.seq (.region false [⟨(some 4), .move (.const (.int .i64 0)), none, false⟩])
 (.ret))))))))
theorem text45 : FnText Tryz.prog 45 [] 20 2 ac45 [(4, none)] :=
 ⟨Tryz.call45, follows, Tryz.f45, _, Tryz.func45, rfl, rfl, by decide, by kernel_rfl, by kernel_rfl⟩


/-- cmp.isNaN[int] -/
def ac56 : AC :=
 .seq (.region false [⟨(some 2), .move (.const (.bool false)), none, false⟩])
 (.seq (.region false [⟨(some 3), .move (.tmp 0), none, false⟩,
 ⟨(some 4), .move (.tmp 0), none, false⟩,
 ⟨(some 5), .bin .neq 3 (.tmp 3) (.tmp 4), none, false⟩,
 ⟨(some 2), .move (.tmp 5), none, false⟩])
 (.ret))
theorem text56 : FnText Tryz.prog 56 [] 6 1 ac56 [(2, none)] :=
 ⟨Tryz.call56, follows, Tryz.f56, _, Tryz.func56, rfl, rfl, by decide, by kernel_rfl, by kernel_rfl⟩

def ac44_L1 : AC :=
 .seq (.region false [⟨(some 9), .bin .lss 3 (.tmp 8) (.tmp 7), none, false⟩])
 (.seq (.cond (.tmp 9)
 (.skip)
 (.exit 0))
 (.seq (.block 1 (.seq (.region false [⟨(some 10), .iaddr 1 (.tmp 6) (.tmp 8), none, false⟩,
 ⟨(some 11), .load 1 false (.tmp 10), none, false⟩,
 ⟨(some 5), .move (.tmp 11), none, false⟩])
 (.seq (.region false [⟨(some 12), .move (.tmp 5), none, false⟩,
 ⟨(some 13), .move (.tmp 3), none, false⟩,
 ⟨(some 14), .bin .neq 3 (.tmp 12) (.tmp 13), none, false⟩])
 (.cond (.tmp 14)
 (.seq (.region false [⟨(some 15), .move (.tmp 5), none, false⟩,
 ⟨(some 2), .move (.tmp 15), none, false⟩])
 (.ret))
 (.skip)))))
 (.region false [⟨(some 16), .bin .add 3 (.tmp 8) (.const (.int .i64 1)), none, false⟩,
 ⟨(some 8), .move (.tmp 16), none, false⟩])))
/-- cmp.Or[int] -/
def ac44 : AC :=
 .seq (.region false [⟨(some 2), .move (.const (.int .i64 0)), none, false⟩])
 (.seq (.region false [⟨(some 3), .move (.const (.int .i64 0)), none, false⟩])
 (.seq (.seq (.region false [⟨(some 6), .move (.tmp 0), none, false⟩,
 ⟨(some 7), .bi .len [29].toArray 3 [(.tmp 6)], none, false⟩,
 ⟨(some 8), .move (.const (.int .i64 0)), none, false⟩])
 (.block 0 (.loop ac44_L1)))
 (.seq (.region false [⟨(some 17), .move (.tmp 3), none, false⟩,
 ⟨(some 2), .move (.tmp 17), none, false⟩])
 (.ret))))
theorem text44 : FnText Tryz.prog 44 [] 18 1 ac44 [(2, none)] :=
 ⟨Tryz.call44, follows, Tryz.f44, _, Tryz.func44, rfl, rfl, by decide, by kernel_rfl, by kernel_rfl⟩

def ac46_L2 : AC :=
 .seq (.seq (.region false [⟨(some 29), .move (.tmp 5), none, false⟩,
 ⟨(some 30), .move (.tmp 4), none, false⟩,
 ⟨(some 31), .bi .len [84].toArray 3 [(.tmp 30)], none, false⟩,
 ⟨(some 32), .bin .lss 3 (.tmp 29) (.tmp 31), none, false⟩])
 (.cond (.tmp 32)
 (.skip)
 (.exit 2)))
 (.seq (.block 3 (.seq (.region true [⟨(some 35), .move (.tmp 4), none, false⟩,
 ⟨(some 36), .move (.tmp 5), none, false⟩,
 ⟨(some 37), .iaddr 2 (.tmp 35) (.tmp 36), none, false⟩,
 ⟨(some 38), .load 2 true (.tmp 37), none, false⟩,
 ⟨(some 39), .move (.tmp 4), none, false⟩,
 ⟨(some 40), .move (.tmp 5), none, false⟩,
 ⟨(some 41), .bin .sub 3 (.tmp 40) (.const (.int .i64 1)), none, false⟩,
 ⟨(some 42), .iaddr 2 (.tmp 39) (.tmp 41), none, false⟩,
 ⟨(some 43), .load 2 true (.tmp 42), none, false⟩,
 ⟨(some 44), .bin .neq 33 (.tmp 38) (.tmp 43), none, false⟩])
 (.cond (.tmp 44)
 (.seq (.region false [⟨(some 45), .move (.tmp 0), none, false⟩,
 ⟨(some 46), .move (.tmp 3), none, false⟩,
 ⟨(some 47), .move (.tmp 4), none, false⟩,
 ⟨(some 48), .move (.tmp 5), none, false⟩,
 ⟨(some 49), .iaddr 2 (.tmp 47) (.tmp 48), none, false⟩,
 ⟨(some 50), .load 2 true (.tmp 49), none, false⟩,
 ⟨(some 51), .iaddr 2 (.tmp 45) (.tmp 46), none, false⟩,
 ⟨none, .store 2 (.tmp 51) (.tmp 50), none, false⟩])
 (.region false [⟨(some 52), .move (.tmp 3), none, false⟩,
 ⟨(some 53), .bin .add 3 (.tmp 52) (.const (.int .i64 1)), none, false⟩,
 ⟨(some 3), .move (.tmp 53), none, false⟩]))
 (.skip))))
 (.region false [⟨(some 33), .move (.tmp 5), none, false⟩,
 ⟨(some 34), .bin .add 3 (.tmp 33) (.const (.int .i64 1)), none, false⟩,
 ⟨(some 5), .move (.tmp 34), none, false⟩]))
def ac46_L1 : AC :=
 .seq (.seq (.region false [⟨(some 10), .move (.tmp 3), none, false⟩,
 ⟨(some 11), .move (.tmp 0), none, false⟩,
 ⟨(some 12), .bi .len [84].toArray 3 [(.tmp 11)], none, false⟩,
 ⟨(some 13), .bin .lss 3 (.tmp 10) (.tmp 12), none, false⟩])
 (.cond (.tmp 13)
 (.skip)
 (.exit 0)))
 (.seq (.block 1 (.seq (.region true [⟨(some 16), .move (.tmp 0), none, false⟩,
 ⟨(some 17), .move (.tmp 3), none, false⟩,
 ⟨(some 18), .iaddr 2 (.tmp 16) (.tmp 17), none, false⟩,
 ⟨(some 19), .load 2 true (.tmp 18), none, false⟩,
 ⟨(some 20), .move (.tmp 0), none, false⟩,
 ⟨(some 21), .move (.tmp 3), none, false⟩,
 ⟨(some 22), .bin .sub 3 (.tmp 21) (.const (.int .i64 1)), none, false⟩,
 ⟨(some 23), .iaddr 2 (.tmp 20) (.tmp 22), none, false⟩,
 ⟨(some 24), .load 2 true (.tmp 23), none, false⟩,
 ⟨(some 25), .bin .eql 33 (.tmp 19) (.tmp 24), none, false⟩])
 (.cond (.tmp 25)
 (.seq (.region false [⟨(some 26), .move (.tmp 0), none, false⟩,
 ⟨(some 27), .move (.tmp 3), none, false⟩,
 ⟨(some 28), .slice 84 2 (.tmp 26) (some (.tmp 27)) none none, none, false⟩,
 ⟨(some 4), .move (.tmp 28), none, false⟩])
 (.seq (.seq (.region false [⟨(some 5), .move (.const (.int .i64 1)), none, false⟩])
 (.block 2 (.loop ac46_L2)))
 (.seq (.region false [⟨(some 54), .move (.tmp 0), none, false⟩,
 ⟨(some 55), .move (.tmp 3), none, false⟩,
 ⟨(some 56), .slice 84 2 (.tmp 54) (some (.tmp 55)) none none, none, false⟩,
 ⟨none, .copy 0 0 0 (.const (.bool false)) (.const (.bool false)), none, false⟩])
 (.seq (.region false [⟨(some 57), .move (.tmp 0), none, false⟩,
 ⟨(some 58), .move (.tmp 3), none, false⟩,
 ⟨(some 59), .slice 84 2 (.tmp 57) none (some (.tmp 58)) none, none, false⟩,
 ⟨(some 2), .move (.tmp 59), none, false⟩])
 (.ret)))))
 (.skip))))
 (.region false [⟨(some 14), .move (.tmp 3), none, false⟩,
 ⟨(some 15), .bin .add 3 (.tmp 14) (.const (.int .i64 1)), none, false⟩,
 ⟨(some 3), .move (.tmp 15), none, false⟩]))
/-- slices.Compact[[]patchbay/api.FieldRef,patchbay/api.FieldRef] -/
def ac46 : AC :=
 .seq (.region false [⟨(some 2), .move (.const (.slice none 0 0)), none, false⟩])
 (.seq (.seq (.region false [⟨(some 6), .move (.tmp 0), none, false⟩,
 ⟨(some 7), .bi .len [84].toArray 3 [(.tmp 6)], none, false⟩,
 ⟨(some 8), .bin .lss 3 (.tmp 7) (.const (.int .i64 2)), none, false⟩])
 (.cond (.tmp 8)
 (.seq (.region false [⟨(some 9), .move (.tmp 0), none, false⟩,
 ⟨(some 2), .move (.tmp 9), none, false⟩])
 (.ret))
 (.skip)))
 (.seq (.seq (.region false [⟨(some 3), .move (.const (.int .i64 1)), none, false⟩])
 (.block 0 (.loop ac46_L1)))
 (.seq (.region false [⟨(some 60), .move (.tmp 0), none, false⟩,
 ⟨(some 2), .move (.tmp 60), none, false⟩])
 (.ret))))
theorem text46 : FnText Tryz.prog 46 [] 61 1 ac46 [(2, none)] :=
 ⟨Tryz.call46, follows, Tryz.f46, _, Tryz.func46, rfl, rfl, by decide, by kernel_rfl, by kernel_rfl⟩

def ac32_L1 : AC :=
 .seq (.region false [⟨(some 9), .bin .lss 3 (.tmp 8) (.tmp 7), none, false⟩])
 (.seq (.cond (.tmp 9)
 (.skip)
 (.exit 0))
 (.seq (.block 1 (.seq (.region false [⟨(some 10), .iaddr 3 (.tmp 6) (.tmp 8), none, false⟩,
 ⟨(some 11), .load 3 true (.tmp 10), none, false⟩,
 ⟨(some 5), .alloc true 62 (.agg [(.int .i64 0), (.int .i64 0), (.int .i64 0)].toArray), none, false⟩,
 ⟨none, .store 3 (.tmp 5) (.tmp 11), none, false⟩])
 (.seq (.region false [⟨(some 12), .faddr 0 1 false (.tmp 5), none, false⟩,
 ⟨(some 13), .load 1 false (.tmp 12), none, false⟩,
 ⟨(some 14), .bin .eql 3 (.tmp 13) (.const (.int .i64 4)), none, false⟩])
 (.cond (.tmp 14)
 (.region false [⟨(some 15), .move (.tmp 3), none, false⟩,
 ⟨(some 16), .faddr 1 1 false (.tmp 5), none, false⟩,
 ⟨(some 17), .load 1 false (.tmp 16), none, false⟩,
 ⟨(some 18), .bslice false 3 1 false [(.tmp 17)], none, false⟩,
 ⟨(some 19), .append 29 3 1 8 (.tmp 15) (.tmp 18), none, false⟩,
 ⟨(some 3), .move (.tmp 19), none, false⟩])
 (.skip)))))
 (.region false [⟨(some 20), .bin .add 3 (.tmp 8) (.const (.int .i64 1)), none, false⟩,
 ⟨(some 8), .move (.tmp 20), none, false⟩])))
/-- patchbay/expr.Headers -/
def ac32 : AC :=
 .seq (.region false [⟨(some 2), .move (.const (.slice none 0 0)), none, false⟩])
 (.seq (.region false [⟨(some 3), .move (.const (.slice none 0 0)), none, false⟩])
 (.seq (.seq (.region false [⟨(some 6), .move (.tmp 0), none, false⟩,
 ⟨(some 7), .bi .len [63].toArray 3 [(.tmp 6)], none, false⟩,
 ⟨(some 8), .move (.const (.int .i64 0)), none, false⟩])
 (.block 0 (.loop ac32_L1)))
 (.seq (.region false [⟨(some 21), .move (.tmp 3), none, false⟩,
 ⟨(some 22), .call (.func 47) [(.tmp 21)], none, false⟩])
 (.seq (.region false [⟨(some 23), .move (.tmp 3), none, false⟩,
 ⟨(some 24), .call (.func 48) [(.tmp 23)], none, false⟩,
 ⟨(some 2), .move (.tmp 24), none, false⟩])
 (.ret)))))
theorem text32 : FnText Tryz.prog 32 [5] 25 1 ac32 [(2, none)] :=
 ⟨Tryz.call32, follows, Tryz.f32, _, Tryz.func32, rfl, rfl, by decide, by kernel_rfl, by kernel_rfl⟩


/-- slices.Sort[[]int,int] -/
def ac47 : AC :=
 .seq (.region false [⟨(some 3), .move (.tmp 0), none, false⟩,
 ⟨(some 4), .bi .len [29].toArray 3 [(.tmp 3)], none, false⟩,
 ⟨(some 2), .move (.tmp 4), none, false⟩])
 (.region false [⟨(some 5), .move (.tmp 0), none, false⟩,
 ⟨(some 6), .move (.tmp 2), none, false⟩,
 ⟨(some 7), .move (.tmp 2), none, false⟩,
 ⟨(some 8), .conv 3 115 (.tmp 7), none, false⟩,
 ⟨(some 9), .call (.func 55) [(.tmp 8)], none, false⟩,
 ⟨(some 10), .call (.func 57) [(.tmp 5), (.const (.int .i64 0)), (.tmp 6), (.tmp 9)], none, false⟩])
theorem text47 : FnText Tryz.prog 47 [] 11 1 ac47 [] :=
 ⟨Tryz.call47, follows, Tryz.f47, _, Tryz.func47, rfl, rfl, by decide, by kernel_rfl, by kernel_rfl⟩

def ac57_G1 : List AOper :=
 [⟨(some 63), .move (.tmp 9), (some (62, true)), false⟩,
 ⟨(some 64), .pick (.tmp 62) (.tmp 63) (.const (.bool false)), none, false⟩]
def ac57_G2 : List AOper :=
 [⟨(some 66), .move (.tmp 12), (some (65, true)), false⟩,
 ⟨(some 67), .bin .eql 123 (.tmp 66) (.const (.int .i64 1)), (some (65, true)), false⟩,
 ⟨(some 68), .pick (.tmp 65) (.tmp 67) (.const (.bool false)), none, false⟩]
def ac57_G3 : List AOper :=
 [⟨(some 76), .move (.tmp 0), (some (75, true)), false⟩,
 ⟨(some 77), .move (.tmp 1), (some (75, true)), false⟩,
 ⟨(some 78), .bin .sub 3 (.tmp 77) (.const (.int .i64 1)), (some (75, true)), false⟩,
 ⟨(some 79), .iaddr 1 (.tmp 76) (.tmp 78), (some (75, true)), false⟩,
 ⟨(some 80), .load 1 false (.tmp 79), (some (75, true)), false⟩,
 ⟨(some 81), .move (.tmp 0), (some (75, true)), false⟩,
 ⟨(some 82), .move (.tmp 11), (some (75, true)), false⟩,
 ⟨(some 83), .iaddr 1 (.tmp 81) (.tmp 82), (some (75, true)), false⟩,
 ⟨(some 84), .load 1 false (.tmp 83), (some (75, true)), false⟩,
 ⟨(some 85), .call (.func 76) [(.tmp 80), (.tmp 84)], (some (75, true)), false⟩,
 ⟨(some 86), .un .not (.tmp 85), (some (75, true)), false⟩,
 ⟨(some 87), .pick (.tmp 75) (.tmp 86) (.const (.bool false)), none, false⟩]
def ac57_L1 : AC :=
 .block 1 (.seq (.region false [⟨(some 19), .move (.tmp 2), none, false⟩,
 ⟨(some 20), .move (.tmp 1), none, false⟩,
 ⟨(some 21), .bin .sub 3 (.tmp 19) (.tmp 20), none, false⟩,
 ⟨(some 10), .move (.tmp 21), none, false⟩])
 (.seq (.seq (.region false [⟨(some 22), .move (.tmp 10), none, false⟩,
 ⟨(some 23), .bin .leq 3 (.tmp 22) (.const (.int .i64 12)), none, false⟩])
 (.cond (.tmp 23)
 (.seq (.region false [⟨(some 24), .move (.tmp 0), none, false⟩,
 ⟨(some 25), .move (.tmp 1), none, false⟩,
 ⟨(some 26), .move (.tmp 2), none, false⟩,
 ⟨(some 27), .call (.func 70) [(.tmp 24), (.tmp 25), (.tmp 26)], none, false⟩])
 (.ret))
 (.skip)))
 (.seq (.seq (.region false [⟨(some 28), .move (.tmp 3), none, false⟩,
 ⟨(some 29), .bin .eql 3 (.tmp 28) (.const (.int .i64 0)), none, false⟩])
 (.cond (.tmp 29)
 (.seq (.region false [⟨(some 30), .move (.tmp 0), none, false⟩,
 ⟨(some 31), .move (.tmp 1), none, false⟩,
 ⟨(some 32), .move (.tmp 2), none, false⟩,
 ⟨(some 33), .call (.func 71) [(.tmp 30), (.tmp 31), (.tmp 32)], none, false⟩])
 (.ret))
 (.skip)))
 (.seq (.seq (.region false [⟨(some 34), .move (.tmp 8), none, false⟩,
 ⟨(some 35), .un .not (.tmp 34), none, false⟩])
 (.cond (.tmp 35)
 (.seq (.region false [⟨(some 36), .move (.tmp 0), none, false⟩,
 ⟨(some 37), .move (.tmp 1), none, false⟩,
 ⟨(some 38), .move (.tmp 2), none, false⟩,
 ⟨(some 39), .call (.func 72) [(.tmp 36), (.tmp 37), (.tmp 38)], none, false⟩])
 (.region false [⟨(some 40), .move (.tmp 3), none, false⟩,
 ⟨(some 41), .bin .sub 3 (.tmp 40) (.const (.int .i64 1)), none, false⟩,
 ⟨(some 3), .move (.tmp 41), none, false⟩]))
 (.skip)))
 (.seq (.region false [⟨(some 43), .move (.tmp 0), none, false⟩,
 ⟨(some 44), .move (.tmp 1), none, false⟩,
 ⟨(some 45), .move (.tmp 2), none, false⟩,
 ⟨(some 46), .call (.func 73) [(.tmp 43), (.tmp 44), (.tmp 45)], none, false⟩,
 ⟨(some 42), .move (.tmp 46), none, false⟩,
 ⟨(some 47), .extract (.tmp 42) 0, none, false⟩,
 ⟨(some 48), .extract (.tmp 42) 1, none, false⟩,
 ⟨(some 11), .move (.tmp 47), none, false⟩,
 ⟨(some 12), .move (.tmp 48), none, false⟩])
 (.seq (.seq (.region false [⟨(some 49), .move (.tmp 12), none, false⟩,
 ⟨(some 50), .bin .eql 123 (.tmp 49) (.const (.int .i64 2)), none, false⟩])
 (.cond (.tmp 50)
 (.seq (.region false [⟨(some 51), .move (.tmp 0), none, false⟩,
 ⟨(some 52), .move (.tmp 1), none, false⟩,
 ⟨(some 53), .move (.tmp 2), none, false⟩,
 ⟨(some 54), .call (.func 74) [(.tmp 51), (.tmp 52), (.tmp 53)], none, false⟩])
 (.seq (.region false [⟨(some 55), .move (.tmp 2), none, false⟩,
 ⟨(some 56), .bin .sub 3 (.tmp 55) (.const (.int .i64 1)), none, false⟩,
 ⟨(some 57), .move (.tmp 11), none, false⟩,
 ⟨(some 58), .move (.tmp 1), none, false⟩,
 ⟨(some 59), .bin .sub 3 (.tmp 57) (.tmp 58), none, false⟩,
 ⟨(some 60), .bin .sub 3 (.tmp 56) (.tmp 59), none, false⟩,
 ⟨(some 11), .move (.tmp 60), none, false⟩])
 (.region false [⟨(some 12), .move (.const (.int .i64 1)), none, false⟩])))
 (.skip)))
 (.seq (.seq (.region false (⟨(some 61), .move (.tmp 8), none, false⟩ :: ⟨(some 62), .move (.tmp 61), none, false⟩ :: (ac57_G1 ++ (⟨(some 65), .move (.tmp 64), none, false⟩ :: (ac57_G2 ++ [])))))
 (.cond (.tmp 68)
 (.seq (.region false [⟨(some 69), .move (.tmp 0), none, false⟩,
 ⟨(some 70), .move (.tmp 1), none, false⟩,
 ⟨(some 71), .move (.tmp 2), none, false⟩,
 ⟨(some 72), .call (.func 75) [(.tmp 69), (.tmp 70), (.tmp 71)], none, false⟩])
 (.cond (.tmp 72)
 (.ret)
 (.skip)))
 (.skip)))
 (.seq (.seq (.region true (⟨(some 73), .move (.tmp 1), none, false⟩ :: ⟨(some 74), .bin .gtr 3 (.tmp 73) (.const (.int .i64 0)), none, false⟩ :: ⟨(some 75), .move (.tmp 74), none, false⟩ :: (ac57_G3 ++ [])))
 (.cond (.tmp 87)
 (.seq (.region false [⟨(some 88), .move (.tmp 0), none, false⟩,
 ⟨(some 89), .move (.tmp 1), none, false⟩,
 ⟨(some 90), .move (.tmp 2), none, false⟩,
 ⟨(some 91), .move (.tmp 11), none, false⟩,
 ⟨(some 92), .call (.func 77) [(.tmp 88), (.tmp 89), (.tmp 90), (.tmp 91)], none, false⟩,
 ⟨(some 13), .move (.tmp 92), none, false⟩])
 (.seq (.region false [⟨(some 93), .move (.tmp 13), none, false⟩,
 ⟨(some 1), .move (.tmp 93), none, false⟩])
 (.exit 1)))
 (.skip)))
 (.seq (.region false [⟨(some 95), .move (.tmp 0), none, false⟩,
 ⟨(some 96), .move (.tmp 1), none, false⟩,
 ⟨(some 97), .move (.tmp 2), none, false⟩,
 ⟨(some 98), .move (.tmp 11), none, false⟩,
 ⟨(some 99), .call (.func 78) [(.tmp 95), (.tmp 96), (.tmp 97), (.tmp 98)], none, false⟩,
 ⟨(some 94), .move (.tmp 99), none, false⟩,
 ⟨(some 100), .extract (.tmp 94) 0, none, false⟩,
 ⟨(some 101), .extract (.tmp 94) 1, none, false⟩,
 ⟨(some 14), .move (.tmp 100), none, false⟩,
 ⟨(some 15), .move (.tmp 101), none, false⟩])
 (.seq (.region false [⟨(some 102), .move (.tmp 15), none, false⟩,
 ⟨(some 9), .move (.tmp 102), none, false⟩])
 (.seq (.region false [⟨(some 103), .move (.tmp 14), none, false⟩,
 ⟨(some 104), .move (.tmp 1), none, false⟩,
 ⟨(some 105), .bin .sub 3 (.tmp 103) (.tmp 104), none, false⟩,
 ⟨(some 106), .move (.tmp 2), none, false⟩,
 ⟨(some 107), .move (.tmp 14), none, false⟩,
 ⟨(some 108), .bin .sub 3 (.tmp 106) (.tmp 107), none, false⟩,
 ⟨(some 16), .move (.tmp 105), none, false⟩,
 ⟨(some 17), .move (.tmp 108), none, false⟩])
 (.seq (.region false [⟨(some 109), .move (.tmp 10), none, false⟩,
 ⟨(some 110), .bin .quo 3 (.tmp 109) (.const (.int .i64 8)), none, false⟩,
 ⟨(some 18), .move (.tmp 110), none, false⟩])
 (.seq (.region false [⟨(some 111), .move (.tmp 16), none, false⟩,
 ⟨(some 112), .move (.tmp 17), none, false⟩,
 ⟨(some 113), .bin .lss 3 (.tmp 111) (.tmp 112), none, false⟩])
 (.cond (.tmp 113)
 (.seq (.region false [⟨(some 114), .move (.tmp 16), none, false⟩,
 ⟨(some 115), .move (.tmp 18), none, false⟩,
 ⟨(some 116), .bin .geq 3 (.tmp 114) (.tmp 115), none, false⟩,
 ⟨(some 8), .move (.tmp 116), none, false⟩])
 (.seq (.region false [⟨(some 117), .move (.tmp 0), none, false⟩,
 ⟨(some 118), .move (.tmp 1), none, false⟩,
 ⟨(some 119), .move (.tmp 14), none, false⟩,
 ⟨(some 120), .move (.tmp 3), none, false⟩,
 ⟨(some 121), .call (.func 57) [(.tmp 117), (.tmp 118), (.tmp 119), (.tmp 120)], none, false⟩])
 (.region false [⟨(some 122), .move (.tmp 14), none, false⟩,
 ⟨(some 123), .bin .add 3 (.tmp 122) (.const (.int .i64 1)), none, false⟩,
 ⟨(some 1), .move (.tmp 123), none, false⟩])))
 (.seq (.region false [⟨(some 124), .move (.tmp 17), none, false⟩,
 ⟨(some 125), .move (.tmp 18), none, false⟩,
 ⟨(some 126), .bin .geq 3 (.tmp 124) (.tmp 125), none, false⟩,
 ⟨(some 8), .move (.tmp 126), none, false⟩])
 (.seq (.region false [⟨(some 127), .move (.tmp 0), none, false⟩,
 ⟨(some 128), .move (.tmp 14), none, false⟩,
 ⟨(some 129), .bin .add 3 (.tmp 128) (.const (.int .i64 1)), none, false⟩,
 ⟨(some 130), .move (.tmp 2), none, false⟩,
 ⟨(some 131), .move (.tmp 3), none, false⟩,
 ⟨(some 132), .call (.func 57) [(.tmp 127), (.tmp 129), (.tmp 130), (.tmp 131)], none, false⟩])
 (.region false [⟨(some 133), .move (.tmp 14), none, false⟩,
 ⟨(some 2), .move (.tmp 133), none, false⟩])))))))))))))))))
/-- slices.pdqsortOrdered[int] -/
def ac57 : AC :=
 .seq (.region false [⟨(some 8), .move (.const (.bool true)), none, false⟩])
 (.seq (.region false [⟨(some 9), .move (.const (.bool true)), none, false⟩])
 (.block 0 (.loop ac57_L1)))
theorem text57 : FnText Tryz.prog 57 [] 134 4 ac57 [] :=
 ⟨Tryz.call57, follows, Tryz.f57, _, Tryz.func57, rfl, rfl, by decide, by kernel_rfl, by kernel_rfl⟩

def ac70_G1 : List AOper :=
 [⟨(some 20), .move (.tmp 0), (some (19, true)), false⟩,
 ⟨(some 21), .move (.tmp 7), (some (19, true)), false⟩,
 ⟨(some 22), .iaddr 1 (.tmp 20) (.tmp 21), (some (19, true)), false⟩,
 ⟨(some 23), .load 1 false (.tmp 22), (some (19, true)), false⟩,
 ⟨(some 24), .move (.tmp 0), (some (19, true)), false⟩,
 ⟨(some 25), .move (.tmp 7), (some (19, true)), false⟩,
 ⟨(some 26), .bin .sub 3 (.tmp 25) (.const (.int .i64 1)), (some (19, true)), false⟩,
 ⟨(some 27), .iaddr 1 (.tmp 24) (.tmp 26), (some (19, true)), false⟩,
 ⟨(some 28), .load 1 false (.tmp 27), (some (19, true)), false⟩,
 ⟨(some 29), .call (.func 76) [(.tmp 23), (.tmp 28)], (some (19, true)), false⟩,
 ⟨(some 30), .pick (.tmp 19) (.tmp 29) (.const (.bool false)), none, false⟩]
def ac70_L2 : AC :=
 .seq (.seq (.region true (⟨(some 16), .move (.tmp 7), none, false⟩ :: ⟨(some 17), .move (.tmp 1), none, false⟩ :: ⟨(some 18), .bin .gtr 3 (.tmp 16) (.tmp 17), none, false⟩ :: ⟨(some 19), .move (.tmp 18), none, false⟩ :: (ac70_G1 ++ [])))
 (.cond (.tmp 30)
 (.skip)
 (.exit 2)))
 (.seq (.block 3 (.region true [⟨(some 33), .move (.tmp 0), none, false⟩,
 ⟨(some 34), .move (.tmp 7), none, false⟩,
 ⟨(some 35), .move (.tmp 0), none, true⟩,
 ⟨(some 36), .move (.tmp 7), none, true⟩,
 ⟨(some 37), .bin .sub 3 (.tmp 36) (.const (.int .i64 1)), none, true⟩,
 ⟨(some 38), .move (.tmp 0), none, false⟩,
 ⟨(some 39), .move (.tmp 7), none, false⟩,
 ⟨(some 40), .bin .sub 3 (.tmp 39) (.const (.int .i64 1)), none, false⟩,
 ⟨(some 41), .iaddr 1 (.tmp 38) (.tmp 40), none, false⟩,
 ⟨(some 42), .load 1 false (.tmp 41), none, false⟩,
 ⟨(some 43), .move (.tmp 0), none, false⟩,
 ⟨(some 44), .move (.tmp 7), none, false⟩,
 ⟨(some 45), .iaddr 1 (.tmp 43) (.tmp 44), none, false⟩,
 ⟨(some 46), .load 1 false (.tmp 45), none, false⟩,
 ⟨(some 47), .iaddr 1 (.tmp 33) (.tmp 34), none, false⟩,
 ⟨none, .store 1 (.tmp 47) (.tmp 42), none, false⟩,
 ⟨(some 48), .iaddr 1 (.tmp 35) (.tmp 37), none, false⟩,
 ⟨none, .store 1 (.tmp 48) (.tmp 46), none, false⟩]))
 (.region false [⟨(some 31), .move (.tmp 7), none, false⟩,
 ⟨(some 32), .bin .sub 3 (.tmp 31) (.const (.int .i64 1)), none, false⟩,
 ⟨(some 7), .move (.tmp 32), none, false⟩]))
def ac70_L1 : AC :=
 .seq (.seq (.region false [⟨(some 10), .move (.tmp 6), none, false⟩,
 ⟨(some 11), .move (.tmp 2), none, false⟩,
 ⟨(some 12), .bin .lss 3 (.tmp 10) (.tmp 11), none, false⟩])
 (.cond (.tmp 12)
 (.skip)
 (.exit 0)))
 (.seq (.block 1 (.seq (.region false [⟨(some 15), .move (.tmp 6), none, false⟩,
 ⟨(some 7), .move (.tmp 15), none, false⟩])
 (.block 2 (.loop ac70_L2))))
 (.region false [⟨(some 13), .move (.tmp 6), none, false⟩,
 ⟨(some 14), .bin .add 3 (.tmp 13) (.const (.int .i64 1)), none, false⟩,
 ⟨(some 6), .move (.tmp 14), none, false⟩]))
/-- slices.insertionSortOrdered[int] -/
def ac70 : AC :=
 .seq (.region false [⟨(some 8), .move (.tmp 1), none, false⟩,
 ⟨(some 9), .bin .add 3 (.tmp 8) (.const (.int .i64 1)), none, false⟩,
 ⟨(some 6), .move (.tmp 9), none, false⟩])
 (.block 0 (.loop ac70_L1))
theorem text70 : FnText Tryz.prog 70 [] 49 3 ac70 [] :=
 ⟨Tryz.call70, follows, Tryz.f70, _, Tryz.func70, rfl, rfl, by decide, by kernel_rfl, by kernel_rfl⟩

def ac76_G1 : List AOper :=
 [⟨(some 8), .move (.tmp 1), (some (7, true)), false⟩,
 ⟨(some 9), .call (.func 56) [(.tmp 8)], (some (7, true)), false⟩,
 ⟨(some 10), .un .not (.tmp 9), (some (7, true)), false⟩,
 ⟨(some 11), .pick (.tmp 7) (.tmp 10) (.const (.bool false)), none, false⟩]
def ac76_G2 : List AOper :=
 [⟨(some 13), .move (.tmp 0), (some (12, false)), false⟩,
 ⟨(some 14), .move (.tmp 1), (some (12, false)), false⟩,
 ⟨(some 15), .bin .lss 3 (.tmp 13) (.tmp 14), (some (12, false)), false⟩,
 ⟨(some 16), .pick (.tmp 12) (.const (.bool true)) (.tmp 15), none, false⟩]
/-- cmp.Less[int] -/
def ac76 : AC :=
 .seq (.region false [⟨(some 4), .move (.const (.bool false)), none, false⟩])
 (.seq (.region false (⟨(some 5), .move (.tmp 0), none, false⟩ :: ⟨(some 6), .call (.func 56) [(.tmp 5)], none, false⟩ :: ⟨(some 7), .move (.tmp 6), none, false⟩ :: (ac76_G1 ++ (⟨(some 12), .move (.tmp 11), none, false⟩ :: (ac76_G2 ++ [⟨(some 4), .move (.tmp 16), none, false⟩])))))
 (.ret))
theorem text76 : FnText Tryz.prog 76 [] 17 2 ac76 [(4, none)] :=
 ⟨Tryz.call76, follows, Tryz.f76, _, Tryz.func76, rfl, rfl, by decide, by kernel_rfl, by kernel_rfl⟩

def ac71_L1 : AC :=
 .seq (.seq (.region false [⟨(some 18), .move (.tmp 9), none, false⟩,
 ⟨(some 19), .bin .geq 3 (.tmp 18) (.const (.int .i64 0)), none, false⟩])
 (.cond (.tmp 19)
 (.skip)
 (.exit 0)))
 (.seq (.block 1 (.region false [⟨(some 22), .move (.tmp 0), none, false⟩,
 ⟨(some 23), .move (.tmp 9), none, false⟩,
 ⟨(some 24), .move (.tmp 8), none, false⟩,
 ⟨(some 25), .move (.tmp 6), none, false⟩,
 ⟨(some 26), .call (.func 86) [(.tmp 22), (.tmp 23), (.tmp 24), (.tmp 25)], none, false⟩]))
 (.region false [⟨(some 20), .move (.tmp 9), none, false⟩,
 ⟨(some 21), .bin .sub 3 (.tmp 20) (.const (.int .i64 1)), none, false⟩,
 ⟨(some 9), .move (.tmp 21), none, false⟩]))
def ac71_L2 : AC :=
 .seq (.seq (.region false [⟨(some 29), .move (.tmp 10), none, false⟩,
 ⟨(some 30), .bin .geq 3 (.tmp 29) (.const (.int .i64 0)), none, false⟩])
 (.cond (.tmp 30)
 (.skip)
 (.exit 2)))
 (.seq (.block 3 (.seq (.region true [⟨(some 33), .move (.tmp 0), none, false⟩,
 ⟨(some 34), .move (.tmp 6), none, false⟩,
 ⟨(some 35), .move (.tmp 0), none, true⟩,
 ⟨(some 36), .move (.tmp 6), none, true⟩,
 ⟨(some 37), .move (.tmp 10), none, true⟩,
 ⟨(some 38), .bin .add 3 (.tmp 36) (.tmp 37), none, true⟩,
 ⟨(some 39), .move (.tmp 0), none, false⟩,
 ⟨(some 40), .move (.tmp 6), none, false⟩,
 ⟨(some 41), .move (.tmp 10), none, false⟩,
 ⟨(some 42), .bin .add 3 (.tmp 40) (.tmp 41), none, false⟩,
 ⟨(some 43), .iaddr 1 (.tmp 39) (.tmp 42), none, false⟩,
 ⟨(some 44), .load 1 false (.tmp 43), none, false⟩,
 ⟨(some 45), .move (.tmp 0), none, false⟩,
 ⟨(some 46), .move (.tmp 6), none, false⟩,
 ⟨(some 47), .iaddr 1 (.tmp 45) (.tmp 46), none, false⟩,
 ⟨(some 48), .load 1 false (.tmp 47), none, false⟩,
 ⟨(some 49), .iaddr 1 (.tmp 33) (.tmp 34), none, false⟩,
 ⟨none, .store 1 (.tmp 49) (.tmp 44), none, false⟩,
 ⟨(some 50), .iaddr 1 (.tmp 35) (.tmp 38), none, false⟩,
 ⟨none, .store 1 (.tmp 50) (.tmp 48), none, false⟩])
 (.region false [⟨(some 51), .move (.tmp 0), none, false⟩,
 ⟨(some 52), .move (.tmp 7), none, false⟩,
 ⟨(some 53), .move (.tmp 10), none, false⟩,
 ⟨(some 54), .move (.tmp 6), none, false⟩,
 ⟨(some 55), .call (.func 86) [(.tmp 51), (.tmp 52), (.tmp 53), (.tmp 54)], none, false⟩])))
 (.region false [⟨(some 31), .move (.tmp 10), none, false⟩,
 ⟨(some 32), .bin .sub 3 (.tmp 31) (.const (.int .i64 1)), none, false⟩,
 ⟨(some 10), .move (.tmp 32), none, false⟩]))
/-- slices.heapSortOrdered[int] -/
def ac71 : AC :=
 .seq (.region false [⟨(some 11), .move (.tmp 1), none, false⟩,
 ⟨(some 6), .move (.tmp 11), none, false⟩])
 (.seq (.region false [⟨(some 7), .move (.const (.int .i64 0)), none, false⟩])
 (.seq (.region false [⟨(some 12), .move (.tmp 2), none, false⟩,
 ⟨(some 13), .move (.tmp 1), none, false⟩,
 ⟨(some 14), .bin .sub 3 (.tmp 12) (.tmp 13), none, false⟩,
 ⟨(some 8), .move (.tmp 14), none, false⟩])
 (.seq (.seq (.region false [⟨(some 15), .move (.tmp 8), none, false⟩,
 ⟨(some 16), .bin .sub 3 (.tmp 15) (.const (.int .i64 1)), none, false⟩,
 ⟨(some 17), .bin .quo 3 (.tmp 16) (.const (.int .i64 2)), none, false⟩,
 ⟨(some 9), .move (.tmp 17), none, false⟩])
 (.block 0 (.loop ac71_L1)))
 (.seq (.region false [⟨(some 27), .move (.tmp 8), none, false⟩,
 ⟨(some 28), .bin .sub 3 (.tmp 27) (.const (.int .i64 1)), none, false⟩,
 ⟨(some 10), .move (.tmp 28), none, false⟩])
 (.block 2 (.loop ac71_L2))))))
theorem text71 : FnText Tryz.prog 71 [] 56 3 ac71 [] :=
 ⟨Tryz.call71, follows, Tryz.f71, _, Tryz.func71, rfl, rfl, by decide, by kernel_rfl, by kernel_rfl⟩

def ac86_G1 : List AOper :=
 [⟨(some 22), .move (.tmp 0), (some (21, true)), false⟩,
 ⟨(some 23), .move (.tmp 3), (some (21, true)), false⟩,
 ⟨(some 24), .move (.tmp 9), (some (21, true)), false⟩,
 ⟨(some 25), .bin .add 3 (.tmp 23) (.tmp 24), (some (21, true)), false⟩,
 ⟨(some 26), .iaddr 1 (.tmp 22) (.tmp 25), (some (21, true)), false⟩,
 ⟨(some 27), .load 1 false (.tmp 26), (some (21, true)), false⟩,
 ⟨(some 28), .move (.tmp 0), (some (21, true)), false⟩,
 ⟨(some 29), .move (.tmp 3), (some (21, true)), false⟩,
 ⟨(some 30), .move (.tmp 9), (some (21, true)), false⟩,
 ⟨(some 31), .bin .add 3 (.tmp 29) (.tmp 30), (some (21, true)), false⟩,
 ⟨(some 32), .bin .add 3 (.tmp 31) (.const (.int .i64 1)), (some (21, true)), false⟩,
 ⟨(some 33), .iaddr 1 (.tmp 28) (.tmp 32), (some (21, true)), false⟩,
 ⟨(some 34), .load 1 false (.tmp 33), (some (21, true)), false⟩,
 ⟨(some 35), .call (.func 76) [(.tmp 27), (.tmp 34)], (some (21, true)), false⟩,
 ⟨(some 36), .pick (.tmp 21) (.tmp 35) (.const (.bool false)), none, false⟩]
def ac86_L1 : AC :=
 .block 1 (.seq (.region false [⟨(some 11), .move (.tmp 8), none, false⟩,
 ⟨(some 12), .bin .mul 3 (.const (.int .i64 2)) (.tmp 11), none, false⟩,
 ⟨(some 13), .bin .add 3 (.tmp 12) (.const (.int .i64 1)), none, false⟩,
 ⟨(some 9), .move (.tmp 13), none, false⟩])
 (.seq (.seq (.region false [⟨(some 14), .move (.tmp 9), none, false⟩,
 ⟨(some 15), .move (.tmp 2), none, false⟩,
 ⟨(some 16), .bin .geq 3 (.tmp 14) (.tmp 15), none, false⟩])
 (.cond (.tmp 16)
 (.exit 0)
 (.skip)))
 (.seq (.seq (.region true (⟨(some 17), .move (.tmp 9), none, false⟩ :: ⟨(some 18), .bin .add 3 (.tmp 17) (.const (.int .i64 1)), none, false⟩ :: ⟨(some 19), .move (.tmp 2), none, false⟩ :: ⟨(some 20), .bin .lss 3 (.tmp 18) (.tmp 19), none, false⟩ :: ⟨(some 21), .move (.tmp 20), none, false⟩ :: (ac86_G1 ++ [])))
 (.cond (.tmp 36)
 (.region false [⟨(some 37), .move (.tmp 9), none, false⟩,
 ⟨(some 38), .bin .add 3 (.tmp 37) (.const (.int .i64 1)), none, false⟩,
 ⟨(some 9), .move (.tmp 38), none, false⟩])
 (.skip)))
 (.seq (.seq (.region true [⟨(some 39), .move (.tmp 0), none, false⟩,
 ⟨(some 40), .move (.tmp 3), none, false⟩,
 ⟨(some 41), .move (.tmp 8), none, false⟩,
 ⟨(some 42), .bin .add 3 (.tmp 40) (.tmp 41), none, false⟩,
 ⟨(some 43), .iaddr 1 (.tmp 39) (.tmp 42), none, false⟩,
 ⟨(some 44), .load 1 false (.tmp 43), none, false⟩,
 ⟨(some 45), .move (.tmp 0), none, false⟩,
 ⟨(some 46), .move (.tmp 3), none, false⟩,
 ⟨(some 47), .move (.tmp 9), none, false⟩,
 ⟨(some 48), .bin .add 3 (.tmp 46) (.tmp 47), none, false⟩,
 ⟨(some 49), .iaddr 1 (.tmp 45) (.tmp 48), none, false⟩,
 ⟨(some 50), .load 1 false (.tmp 49), none, false⟩,
 ⟨(some 51), .call (.func 76) [(.tmp 44), (.tmp 50)], none, false⟩,
 ⟨(some 52), .un .not (.tmp 51), none, false⟩])
 (.cond (.tmp 52)
 (.ret)
 (.skip)))
 (.seq (.region true [⟨(some 53), .move (.tmp 0), none, false⟩,
 ⟨(some 54), .move (.tmp 3), none, false⟩,
 ⟨(some 55), .move (.tmp 8), none, false⟩,
 ⟨(some 56), .bin .add 3 (.tmp 54) (.tmp 55), none, false⟩,
 ⟨(some 57), .move (.tmp 0), none, true⟩,
 ⟨(some 58), .move (.tmp 3), none, true⟩,
 ⟨(some 59), .move (.tmp 9), none, true⟩,
 ⟨(some 60), .bin .add 3 (.tmp 58) (.tmp 59), none, true⟩,
 ⟨(some 61), .move (.tmp 0), none, false⟩,
 ⟨(some 62), .move (.tmp 3), none, false⟩,
 ⟨(some 63), .move (.tmp 9), none, false⟩,
 ⟨(some 64), .bin .add 3 (.tmp 62) (.tmp 63), none, false⟩,
 ⟨(some 65), .iaddr 1 (.tmp 61) (.tmp 64), none, false⟩,
 ⟨(some 66), .load 1 false (.tmp 65), none, false⟩,
 ⟨(some 67), .move (.tmp 0), none, false⟩,
 ⟨(some 68), .move (.tmp 3), none, false⟩,
 ⟨(some 69), .move (.tmp 8), none, false⟩,
 ⟨(some 70), .bin .add 3 (.tmp 68) (.tmp 69), none, false⟩,
 ⟨(some 71), .iaddr 1 (.tmp 67) (.tmp 70), none, false⟩,
 ⟨(some 72), .load 1 false (.tmp 71), none, false⟩,
 ⟨(some 73), .iaddr 1 (.tmp 53) (.tmp 56), none, false⟩,
 ⟨none, .store 1 (.tmp 73) (.tmp 66), none, false⟩,
 ⟨(some 74), .iaddr 1 (.tmp 57) (.tmp 60), none, false⟩,
 ⟨none, .store 1 (.tmp 74) (.tmp 72), none, false⟩])
 (.region false [⟨(some 75), .move (.tmp 9), none, false⟩,
 ⟨(some 8), .move (.tmp 75), none, false⟩]))))))
/-- slices.siftDownOrdered[int] -/
def ac86 : AC :=
 .seq (.region false [⟨(some 10), .move (.tmp 1), none, false⟩,
 ⟨(some 8), .move (.tmp 10), none, false⟩])
 (.block 0 (.loop ac86_L1))
theorem text86 : FnText Tryz.prog 86 [] 76 4 ac86 [] :=
 ⟨Tryz.call86, follows, Tryz.f86, _, Tryz.func86, rfl, rfl, by decide, by kernel_rfl, by kernel_rfl⟩

def ac72_L1 : AC :=
 .seq (.seq (.region false [⟨(some 26), .move (.tmp 9), none, false⟩,
 ⟨(some 27), .move (.tmp 1), none, false⟩,
 ⟨(some 28), .move (.tmp 6), none, false⟩,
 ⟨(some 29), .bin .quo 3 (.tmp 28) (.const (.int .i64 4)), none, false⟩,
 ⟨(some 30), .bin .mul 3 (.tmp 29) (.const (.int .i64 2)), none, false⟩,
 ⟨(some 31), .bin .add 3 (.tmp 27) (.tmp 30), none, false⟩,
 ⟨(some 32), .bin .add 3 (.tmp 31) (.const (.int .i64 1)), none, false⟩,
 ⟨(some 33), .bin .leq 3 (.tmp 26) (.tmp 32), none, false⟩])
 (.cond (.tmp 33)
 (.skip)
 (.exit 0)))
 (.seq (.block 1 (.seq (.region false [⟨(some 36), .call (.func 83) [(.tmp 7)], none, false⟩,
 ⟨(some 37), .move (.tmp 8), none, false⟩,
 ⟨(some 38), .bin .sub 115 (.tmp 37) (.const (.int .u64 1)), none, false⟩,
 ⟨(some 39), .bin .and 115 (.tmp 36) (.tmp 38), none, false⟩,
 ⟨(some 40), .conv 115 3 (.tmp 39), none, false⟩,
 ⟨(some 10), .move (.tmp 40), none, false⟩])
 (.seq (.seq (.region false [⟨(some 41), .move (.tmp 10), none, false⟩,
 ⟨(some 42), .move (.tmp 6), none, false⟩,
 ⟨(some 43), .bin .geq 3 (.tmp 41) (.tmp 42), none, false⟩])
 (.cond (.tmp 43)
 (.region false [⟨(some 44), .move (.tmp 10), none, false⟩,
 ⟨(some 45), .move (.tmp 6), none, false⟩,
 ⟨(some 46), .bin .sub 3 (.tmp 44) (.tmp 45), none, false⟩,
 ⟨(some 10), .move (.tmp 46), none, false⟩])
 (.skip)))
 (.region true [⟨(some 47), .move (.tmp 0), none, false⟩,
 ⟨(some 48), .move (.tmp 9), none, false⟩,
 ⟨(some 49), .move (.tmp 0), none, true⟩,
 ⟨(some 50), .move (.tmp 1), none, true⟩,
 ⟨(some 51), .move (.tmp 10), none, true⟩,
 ⟨(some 52), .bin .add 3 (.tmp 50) (.tmp 51), none, true⟩,
 ⟨(some 53), .move (.tmp 0), none, false⟩,
 ⟨(some 54), .move (.tmp 1), none, false⟩,
 ⟨(some 55), .move (.tmp 10), none, false⟩,
 ⟨(some 56), .bin .add 3 (.tmp 54) (.tmp 55), none, false⟩,
 ⟨(some 57), .iaddr 1 (.tmp 53) (.tmp 56), none, false⟩,
 ⟨(some 58), .load 1 false (.tmp 57), none, false⟩,
 ⟨(some 59), .move (.tmp 0), none, false⟩,
 ⟨(some 60), .move (.tmp 9), none, false⟩,
 ⟨(some 61), .iaddr 1 (.tmp 59) (.tmp 60), none, false⟩,
 ⟨(some 62), .load 1 false (.tmp 61), none, false⟩,
 ⟨(some 63), .iaddr 1 (.tmp 47) (.tmp 48), none, false⟩,
 ⟨none, .store 1 (.tmp 63) (.tmp 58), none, false⟩,
 ⟨(some 64), .iaddr 1 (.tmp 49) (.tmp 52), none, false⟩,
 ⟨none, .store 1 (.tmp 64) (.tmp 62), none, false⟩]))))
 (.region false [⟨(some 34), .move (.tmp 9), none, false⟩,
 ⟨(some 35), .bin .add 3 (.tmp 34) (.const (.int .i64 1)), none, false⟩,
 ⟨(some 9), .move (.tmp 35), none, false⟩]))
/-- slices.breakPatternsOrdered[int] -/
def ac72 : AC :=
 .seq (.region false [⟨(some 11), .move (.tmp 2), none, false⟩,
 ⟨(some 12), .move (.tmp 1), none, false⟩,
 ⟨(some 13), .bin .sub 3 (.tmp 11) (.tmp 12), none, false⟩,
 ⟨(some 6), .move (.tmp 13), none, false⟩])
 (.seq (.region false [⟨(some 14), .move (.tmp 6), none, false⟩,
 ⟨(some 15), .bin .geq 3 (.tmp 14) (.const (.int .i64 8)), none, false⟩])
 (.cond (.tmp 15)
 (.seq (.region false [⟨(some 16), .move (.tmp 6), none, false⟩,
 ⟨(some 17), .conv 3 145 (.tmp 16), none, false⟩,
 ⟨(some 7), .alloc true 145 (.int .u64 0), none, false⟩,
 ⟨none, .store 1 (.tmp 7) (.tmp 17), none, false⟩])
 (.seq (.region false [⟨(some 18), .move (.tmp 6), none, false⟩,
 ⟨(some 19), .call (.func 82) [(.tmp 18)], none, false⟩,
 ⟨(some 8), .move (.tmp 19), none, false⟩])
 (.seq (.region false [⟨(some 20), .move (.tmp 1), none, false⟩,
 ⟨(some 21), .move (.tmp 6), none, false⟩,
 ⟨(some 22), .bin .quo 3 (.tmp 21) (.const (.int .i64 4)), none, false⟩,
 ⟨(some 23), .bin .mul 3 (.tmp 22) (.const (.int .i64 2)), none, false⟩,
 ⟨(some 24), .bin .add 3 (.tmp 20) (.tmp 23), none, false⟩,
 ⟨(some 25), .bin .sub 3 (.tmp 24) (.const (.int .i64 1)), none, false⟩,
 ⟨(some 9), .move (.tmp 25), none, false⟩])
 (.block 0 (.loop ac72_L1)))))
 (.skip)))
theorem text72 : FnText Tryz.prog 72 [7] 65 3 ac72 [] :=
 ⟨Tryz.call72, follows, Tryz.f72, _, Tryz.func72, rfl, rfl, by decide, by kernel_rfl, by kernel_rfl⟩


/-- slices.choosePivotOrdered[int] -/
def ac73 : AC :=
 .seq (.region false [⟨(some 6), .move (.const (.int .i64 0)), none, false⟩,
 ⟨(some 7), .move (.const (.int .i64 0)), none, false⟩])
 (.seq (.region false [⟨(some 13), .move (.tmp 2), none, false⟩,
 ⟨(some 14), .move (.tmp 1), none, false⟩,
 ⟨(some 15), .bin .sub 3 (.tmp 13) (.tmp 14), none, false⟩,
 ⟨(some 8), .move (.tmp 15), none, false⟩])
 (.seq (.region false [⟨(some 9), .alloc true 3 (.int .i64 0), none, false⟩])
 (.seq (.region false [⟨(some 16), .move (.tmp 1), none, false⟩,
 ⟨(some 17), .move (.tmp 8), none, false⟩,
 ⟨(some 18), .bin .quo 3 (.tmp 17) (.const (.int .i64 4)), none, false⟩,
 ⟨(some 19), .bin .mul 3 (.tmp 18) (.const (.int .i64 1)), none, false⟩,
 ⟨(some 20), .bin .add 3 (.tmp 16) (.tmp 19), none, false⟩,
 ⟨(some 10), .move (.tmp 20), none, false⟩])
 (.seq (.region false [⟨(some 21), .move (.tmp 1), none, false⟩,
 ⟨(some 22), .move (.tmp 8), none, false⟩,
 ⟨(some 23), .bin .quo 3 (.tmp 22) (.const (.int .i64 4)), none, false⟩,
 ⟨(some 24), .bin .mul 3 (.tmp 23) (.const (.int .i64 2)), none, false⟩,
 ⟨(some 25), .bin .add 3 (.tmp 21) (.tmp 24), none, false⟩,
 ⟨(some 11), .move (.tmp 25), none, false⟩])
 (.seq (.region false [⟨(some 26), .move (.tmp 1), none, false⟩,
 ⟨(some 27), .move (.tmp 8), none, false⟩,
 ⟨(some 28), .bin .quo 3 (.tmp 27) (.const (.int .i64 4)), none, false⟩,
 ⟨(some 29), .bin .mul 3 (.tmp 28) (.const (.int .i64 3)), none, false⟩,
 ⟨(some 30), .bin .add 3 (.tmp 26) (.tmp 29), none, false⟩,
 ⟨(some 12), .move (.tmp 30), none, false⟩])
 (.seq (.seq (.region false [⟨(some 31), .move (.tmp 8), none, false⟩,
 ⟨(some 32), .bin .geq 3 (.tmp 31) (.const (.int .i64 8)), none, false⟩])
 (.cond (.tmp 32)
 (.seq (.seq (.region false [⟨(some 33), .move (.tmp 8), none, false⟩,
 ⟨(some 34), .bin .geq 3 (.tmp 33) (.const (.int .i64 50)), none, false⟩])
 (.cond (.tmp 34)
 (.seq (.region false [⟨(some 35), .move (.tmp 0), none, false⟩,
 ⟨(some 36), .move (.tmp 10), none, false⟩,
 ⟨(some 37), .call (.func 87) [(.tmp 35), (.tmp 36), (.tmp 9)], none, false⟩,
 ⟨(some 10), .move (.tmp 37), none, false⟩])
 (.seq (.region false [⟨(some 38), .move (.tmp 0), none, false⟩,
 ⟨(some 39), .move (.tmp 11), none, false⟩,
 ⟨(some 40), .call (.func 87) [(.tmp 38), (.tmp 39), (.tmp 9)], none, false⟩,
 ⟨(some 11), .move (.tmp 40), none, false⟩])
 (.region false [⟨(some 41), .move (.tmp 0), none, false⟩,
 ⟨(some 42), .move (.tmp 12), none, false⟩,
 ⟨(some 43), .call (.func 87) [(.tmp 41), (.tmp 42), (.tmp 9)], none, false⟩,
 ⟨(some 12), .move (.tmp 43), none, false⟩])))
 (.skip)))
 (.region false [⟨(some 44), .move (.tmp 0), none, false⟩,
 ⟨(some 45), .move (.tmp 10), none, false⟩,
 ⟨(some 46), .move (.tmp 11), none, false⟩,
 ⟨(some 47), .move (.tmp 12), none, false⟩,
 ⟨(some 48), .call (.func 88) [(.tmp 44), (.tmp 45), (.tmp 46), (.tmp 47), (.tmp 9)], none, false⟩,
 ⟨(some 11), .move (.tmp 48), none, false⟩]))
 (.skip)))
 (.seq (.region false [⟨(some 49), .load 1 false (.tmp 9), none, false⟩])
 (.block 0 (.seq (.region false [⟨(some 52), .bin .eql 3 (.tmp 49) (.const (.int .i64 0)), none, false⟩,
 ⟨(some 51), .move (.tmp 52), none, false⟩])
 (.cond (.tmp 51)
 (.seq (.region false [⟨(some 53), .move (.tmp 11), none, false⟩,
 ⟨(some 6), .move (.tmp 53), none, false⟩,
 ⟨(some 7), .move (.const (.int .i64 1)), none, false⟩])
 (.ret))
 (.seq (.region false [⟨(some 55), .bin .eql 3 (.tmp 49) (.const (.int .i64 12)), none, false⟩,
 ⟨(some 54), .move (.tmp 55), none, false⟩])
 (.cond (.tmp 54)
 (.seq (.region false [⟨(some 56), .move (.tmp 11), none, false⟩,
 ⟨(some 6), .move (.tmp 56), none, false⟩,
 ⟨(some 7), .move (.const (.int .i64 2)), none, false⟩])
 (.ret))
 (.seq (.region false [⟨(some 50), .move (.tmp 11), none, false⟩,
 ⟨(some 6), .move (.tmp 50), none, false⟩,
 ⟨(some 7), .move (.const (.int .i64 0)), none, false⟩])
 (.ret))))))))))))))
theorem text73 : FnText Tryz.prog 73 [9] 57 3 ac73 [(6, none), (7, none)] :=
 ⟨Tryz.call73, follows, Tryz.f73, _, Tryz.func73, rfl, rfl, by decide, by kernel_rfl, by kernel_rfl⟩


/-- slices.medianAdjacentOrdered[int] -/
def ac87 : AC :=
 .seq (.region false [⟨(some 6), .move (.const (.int .i64 0)), none, false⟩])
 (.seq (.region false [⟨(some 7), .move (.tmp 0), none, false⟩,
 ⟨(some 8), .move (.tmp 1), none, false⟩,
 ⟨(some 9), .bin .sub 3 (.tmp 8) (.const (.int .i64 1)), none, false⟩,
 ⟨(some 10), .move (.tmp 1), none, false⟩,
 ⟨(some 11), .move (.tmp 1), none, false⟩,
 ⟨(some 12), .bin .add 3 (.tmp 11) (.const (.int .i64 1)), none, false⟩,
 ⟨(some 13), .move (.tmp 2), none, false⟩,
 ⟨(some 14), .call (.func 88) [(.tmp 7), (.tmp 9), (.tmp 10), (.tmp 12), (.tmp 13)], none, false⟩,
 ⟨(some 6), .move (.tmp 14), none, false⟩])
 (.ret))
theorem text87 : FnText Tryz.prog 87 [] 15 3 ac87 [(6, none)] :=
 ⟨Tryz.call87, follows, Tryz.f87, _, Tryz.func87, rfl, rfl, by decide, by kernel_rfl, by kernel_rfl⟩


/-- slices.medianOrdered[int] -/
def ac88 : AC :=
 .seq (.region false [⟨(some 10), .move (.const (.int .i64 0)), none, false⟩])
 (.seq (.region false [⟨(some 12), .move (.tmp 0), none, false⟩,
 ⟨(some 13), .move (.tmp 1), none, false⟩,
 ⟨(some 14), .move (.tmp 2), none, false⟩,
 ⟨(some 15), .move (.tmp 4), none, false⟩,
 ⟨(some 16), .call (.func 96) [(.tmp 12), (.tmp 13), (.tmp 14), (.tmp 15)], none, false⟩,
 ⟨(some 11), .move (.tmp 16), none, false⟩,
 ⟨(some 17), .extract (.tmp 11) 0, none, false⟩,
 ⟨(some 18), .extract (.tmp 11) 1, none, false⟩,
 ⟨(some 1), .move (.tmp 17), none, false⟩,
 ⟨(some 2), .move (.tmp 18), none, false⟩])
 (.seq (.region false [⟨(some 20), .move (.tmp 0), none, false⟩,
 ⟨(some 21), .move (.tmp 2), none, false⟩,
 ⟨(some 22), .move (.tmp 3), none, false⟩,
 ⟨(some 23), .move (.tmp 4), none, false⟩,
 ⟨(some 24), .call (.func 96) [(.tmp 20), (.tmp 21), (.tmp 22), (.tmp 23)], none, false⟩,
 ⟨(some 19), .move (.tmp 24), none, false⟩,
 ⟨(some 25), .extract (.tmp 19) 0, none, false⟩,
 ⟨(some 26), .extract (.tmp 19) 1, none, false⟩,
 ⟨(some 2), .move (.tmp 25), none, false⟩,
 ⟨(some 3), .move (.tmp 26), none, false⟩])
 (.seq (.region false [⟨(some 28), .move (.tmp 0), none, false⟩,
 ⟨(some 29), .move (.tmp 1), none, false⟩,
 ⟨(some 30), .move (.tmp 2), none, false⟩,
 ⟨(some 31), .move (.tmp 4), none, false⟩,
 ⟨(some 32), .call (.func 96) [(.tmp 28), (.tmp 29), (.tmp 30), (.tmp 31)], none, false⟩,
 ⟨(some 27), .move (.tmp 32), none, false⟩,
 ⟨(some 33), .extract (.tmp 27) 0, none, false⟩,
 ⟨(some 34), .extract (.tmp 27) 1, none, false⟩,
 ⟨(some 1), .move (.tmp 33), none, false⟩,
 ⟨(some 2), .move (.tmp 34), none, false⟩])
 (.seq (.region false [⟨(some 35), .move (.tmp 2), none, false⟩,
 ⟨(some 10), .move (.tmp 35), none, false⟩])
 (.ret)))))
theorem text88 : FnText Tryz.prog 88 [] 36 5 ac88 [(10, none)] :=
 ⟨Tryz.call88, follows, Tryz.f88, _, Tryz.func88, rfl, rfl, by decide, by kernel_rfl, by kernel_rfl⟩


/-- slices.order2Ordered[int] -/
def ac96 : AC :=
 .seq (.region false [⟨(some 8), .move (.const (.int .i64 0)), none, false⟩,
 ⟨(some 9), .move (.const (.int .i64 0)), none, false⟩])
 (.seq (.seq (.regionT [⟨(some 10), .move (.tmp 0), none, false⟩,
 ⟨(some 11), .move (.tmp 2), none, false⟩,
 ⟨(some 12), .iaddr 1 (.tmp 10) (.tmp 11), none, false⟩,
 ⟨(some 13), .load 1 false (.tmp 12), none, false⟩,
 ⟨(some 14), .move (.tmp 0), none, false⟩,
 ⟨(some 15), .move (.tmp 1), none, false⟩,
 ⟨(some 16), .iaddr 1 (.tmp 14) (.tmp 15), none, false⟩,
 ⟨(some 17), .load 1 false (.tmp 16), none, false⟩] ⟨(some 18), .call (.func 76) [(.tmp 13), (.tmp 17)], none, false⟩)
 (.cond (.tmp 18)
 (.seq (.region false [⟨(some 19), .move (.tmp 3), none, false⟩,
 ⟨(some 20), .nilCheck (.tmp 19), none, false⟩,
 ⟨(some 21), .load 1 false (.tmp 20), none, false⟩,
 ⟨(some 22), .bin .add 3 (.tmp 21) (.const (.int .i64 1)), none, false⟩,
 ⟨(some 23), .nilCheck (.tmp 19), none, false⟩,
 ⟨none, .store 1 (.tmp 23) (.tmp 22), none, false⟩])
 (.seq (.region false [⟨(some 24), .move (.tmp 2), none, false⟩,
 ⟨(some 25), .move (.tmp 1), none, false⟩,
 ⟨(some 8), .move (.tmp 24), none, false⟩,
 ⟨(some 9), .move (.tmp 25), none, false⟩])
 (.ret)))
 (.skip)))
 (.seq (.region false [⟨(some 26), .move (.tmp 1), none, false⟩,
 ⟨(some 27), .move (.tmp 2), none, false⟩,
 ⟨(some 8), .move (.tmp 26), none, false⟩,
 ⟨(some 9), .move (.tmp 27), none, false⟩])
 (.ret)))
theorem text96 : FnText Tryz.prog 96 [] 28 4 ac96 [(8, none), (9, none)] :=
 ⟨Tryz.call96, follows, Tryz.f96, _, Tryz.func96, rfl, rfl, by decide, by kernel_rfl, by kernel_rfl⟩

def ac74_L1 : AC :=
 .seq (.seq (.region false [⟨(some 11), .move (.tmp 6), none, false⟩,
 ⟨(some 12), .move (.tmp 7), none, false⟩,
 ⟨(some 13), .bin .lss 3 (.tmp 11) (.tmp 12), none, false⟩])
 (.cond (.tmp 13)
 (.skip)
 (.exit 0)))
 (.block 1 (.seq (.region true [⟨(some 14), .move (.tmp 0), none, false⟩,
 ⟨(some 15), .move (.tmp 6), none, false⟩,
 ⟨(some 16), .move (.tmp 0), none, true⟩,
 ⟨(some 17), .move (.tmp 7), none, true⟩,
 ⟨(some 18), .move (.tmp 0), none, false⟩,
 ⟨(some 19), .move (.tmp 7), none, false⟩,
 ⟨(some 20), .iaddr 1 (.tmp 18) (.tmp 19), none, false⟩,
 ⟨(some 21), .load 1 false (.tmp 20), none, false⟩,
 ⟨(some 22), .move (.tmp 0), none, false⟩,
 ⟨(some 23), .move (.tmp 6), none, false⟩,
 ⟨(some 24), .iaddr 1 (.tmp 22) (.tmp 23), none, false⟩,
 ⟨(some 25), .load 1 false (.tmp 24), none, false⟩,
 ⟨(some 26), .iaddr 1 (.tmp 14) (.tmp 15), none, false⟩,
 ⟨none, .store 1 (.tmp 26) (.tmp 21), none, false⟩,
 ⟨(some 27), .iaddr 1 (.tmp 16) (.tmp 17), none, false⟩,
 ⟨none, .store 1 (.tmp 27) (.tmp 25), none, false⟩])
 (.seq (.region false [⟨(some 28), .move (.tmp 6), none, false⟩,
 ⟨(some 29), .bin .add 3 (.tmp 28) (.const (.int .i64 1)), none, false⟩,
 ⟨(some 6), .move (.tmp 29), none, false⟩])
 (.region false [⟨(some 30), .move (.tmp 7), none, false⟩,
 ⟨(some 31), .bin .sub 3 (.tmp 30) (.const (.int .i64 1)), none, false⟩,
 ⟨(some 7), .move (.tmp 31), none, false⟩]))))
/-- slices.reverseRangeOrdered[int] -/
def ac74 : AC :=
 .seq (.region false [⟨(some 8), .move (.tmp 1), none, false⟩,
 ⟨(some 6), .move (.tmp 8), none, false⟩])
 (.seq (.region false [⟨(some 9), .move (.tmp 2), none, false⟩,
 ⟨(some 10), .bin .sub 3 (.tmp 9) (.const (.int .i64 1)), none, false⟩,
 ⟨(some 7), .move (.tmp 10), none, false⟩])
 (.block 0 (.loop ac74_L1)))
theorem text74 : FnText Tryz.prog 74 [] 32 3 ac74 [] :=
 ⟨Tryz.call74, follows, Tryz.f74, _, Tryz.func74, rfl, rfl, by decide, by kernel_rfl, by kernel_rfl⟩

end Go.Proofs.YtepkgeppmjmkjaaGreat
