/-
  The text of each function of this seat, as the plain library tells it; each by the kernel's own reckoning from the program.
-/
import Derived.Test.YtepkgeppmjmkjaaPbWp
import Derived.Test.YtepkgeppmjmkjaaRows
set_option linter.unusedVariables false
set_option maxRecDepth 100000
namespace Go.Proofs.Ytepkgeppmjmkjaa
open Go Go.Pb
theorem follows : Try.prog.follows .mixedOrders = true := by kernel_rfl
def ac10_G1 : List AOper :=
  [⟨(some 14), .move (.tmp 5), (some (13, true)), false⟩,
    ⟨(some 15), .bin .lss 3 (.tmp 14) (.const (.int .i64 100)), (some (13, true)), false⟩,
    ⟨(some 16), .pick (.tmp 13) (.tmp 15) (.const (.bool false)), none, false⟩]
def ac10_G2 : List AOper :=
  [⟨(some 22), .move (.tmp 0), (some (21, false)), false⟩,
    ⟨(some 23), .move (.tmp 6), (some (21, false)), false⟩,
    ⟨(some 24), .iaddr 5 (.tmp 22) (.tmp 23), (some (21, false)), false⟩,
    ⟨(some 25), .faddr 2 1 false (.tmp 24), (some (21, false)), false⟩,
    ⟨(some 26), .load 1 false (.tmp 25), (some (21, false)), false⟩,
    ⟨(some 27), .bi .len [61].toArray 3 [(.tmp 26)], (some (21, false)), false⟩,
    ⟨(some 28), .bin .gtr 3 (.tmp 27) (.const (.int .i64 40)), (some (21, false)), false⟩,
    ⟨(some 29), .pick (.tmp 21) (.const (.bool true)) (.tmp 28), none, false⟩]
def ac10_L1 : AC :=
  .seq (.seq (.region false (⟨(some 9), .move (.tmp 6), none, false⟩ :: ⟨(some 10), .move (.tmp 0), none, false⟩ :: ⟨(some 11), .bi .len [28].toArray 3 [(.tmp 10)], none, false⟩ :: ⟨(some 12), .bin .lss 3 (.tmp 9) (.tmp 11), none, false⟩ :: ⟨(some 13), .move (.tmp 12), none, false⟩ :: (ac10_G1 ++ [])))
      (.cond (.tmp 16)
        (.skip)
        (.exit 0)))
    (.seq (.block 1 (.seq (.seq (.region false (⟨(some 19), .move (.tmp 1), none, false⟩ :: ⟨(some 20), .bin .eql 3 (.tmp 19) (.const (.int .i64 0)), none, false⟩ :: ⟨(some 21), .move (.tmp 20), none, false⟩ :: (ac10_G2 ++ [])))
            (.cond (.tmp 29)
              (.seq (.region false [⟨(some 4), .move (.const (.int .i64 100)), none, false⟩])
                (.ret))
              (.skip)))
          (.region true [⟨(some 30), .move (.tmp 5), none, false⟩,
              ⟨(some 31), .move (.tmp 0), none, false⟩,
              ⟨(some 32), .move (.tmp 6), none, false⟩,
              ⟨(some 33), .iaddr 5 (.tmp 31) (.tmp 32), none, false⟩,
              ⟨(some 34), .faddr 3 1 false (.tmp 33), none, false⟩,
              ⟨(some 35), .load 1 false (.tmp 34), none, false⟩,
              ⟨(some 36), .move (.tmp 1), none, false⟩,
              ⟨(some 37), .bin .sub 3 (.tmp 36) (.const (.int .i64 1)), none, false⟩,
              ⟨(some 38), .call (.func 10) [(.tmp 35), (.tmp 37)], none, false⟩,
              ⟨(some 39), .bin .add 3 (.tmp 30) (.tmp 38), none, false⟩,
              ⟨(some 40), .move (.tmp 0), none, false⟩,
              ⟨(some 41), .move (.tmp 6), none, false⟩,
              ⟨(some 42), .iaddr 5 (.tmp 40) (.tmp 41), none, false⟩,
              ⟨(some 43), .faddr 4 1 false (.tmp 42), none, false⟩,
              ⟨(some 44), .load 1 false (.tmp 43), none, false⟩,
              ⟨(some 45), .move (.tmp 1), none, false⟩,
              ⟨(some 46), .bin .sub 3 (.tmp 45) (.const (.int .i64 1)), none, false⟩,
              ⟨(some 47), .call (.func 10) [(.tmp 44), (.tmp 46)], none, false⟩,
              ⟨(some 48), .bin .add 3 (.tmp 39) (.tmp 47), none, false⟩,
              ⟨(some 5), .move (.tmp 48), none, false⟩])))
      (.region false [⟨(some 17), .move (.tmp 6), none, false⟩,
          ⟨(some 18), .bin .add 3 (.tmp 17) (.const (.int .i64 1)), none, false⟩,
          ⟨(some 6), .move (.tmp 18), none, false⟩]))
/-- patchbay/patchbaylaw21.nodes -/
def ac10 : AC :=
  .seq (.region false [⟨(some 4), .move (.const (.int .i64 0)), none, false⟩])
    (.seq (.region false [⟨(some 7), .move (.tmp 0), none, false⟩,
          ⟨(some 8), .bi .len [28].toArray 3 [(.tmp 7)], none, false⟩,
          ⟨(some 5), .move (.tmp 8), none, false⟩])
      (.seq (.seq (.region false [⟨(some 6), .move (.const (.int .i64 0)), none, false⟩])
          (.block 0 (.loop ac10_L1)))
        (.seq (.region false [⟨(some 49), .move (.tmp 5), none, false⟩,
              ⟨(some 4), .move (.tmp 49), none, false⟩])
          (.ret))))
theorem text10 : FnText Try.prog 10 [] 50 2 ac10 [(4, none)] :=
  ⟨Try.call10, follows, Try.f10, _, Try.func10, rfl, rfl, by decide, by kernel_rfl, by kernel_rfl⟩

def ac11_G1 : List AOper :=
  [⟨(some 9), .faddr 1 1 false (.tmp 1), (some (8, false)), false⟩,
    ⟨(some 10), .load 1 false (.tmp 9), (some (8, false)), false⟩,
    ⟨(some 11), .bi .len [23].toArray 3 [(.tmp 10)], (some (8, false)), false⟩,
    ⟨(some 12), .bin .gtr 3 (.tmp 11) (.const (.int .i64 20)), (some (8, false)), false⟩,
    ⟨(some 13), .pick (.tmp 8) (.const (.bool true)) (.tmp 12), none, false⟩]
def ac11_L1 : AC :=
  .seq (.seq (.region false [⟨(some 14), .move (.tmp 3), none, false⟩,
          ⟨(some 15), .faddr 1 1 false (.tmp 1), none, false⟩,
          ⟨(some 16), .load 1 false (.tmp 15), none, false⟩,
          ⟨(some 17), .bi .len [23].toArray 3 [(.tmp 16)], none, false⟩,
          ⟨(some 18), .bin .lss 3 (.tmp 14) (.tmp 17), none, false⟩])
      (.cond (.tmp 18)
        (.skip)
        (.exit 0)))
    (.seq (.block 1 (.seq (.region false [⟨(some 21), .faddr 1 1 false (.tmp 1), none, false⟩,
              ⟨(some 22), .load 1 false (.tmp 21), none, false⟩,
              ⟨(some 23), .move (.tmp 3), none, false⟩,
              ⟨(some 24), .iaddr 2 (.tmp 22) (.tmp 23), none, false⟩,
              ⟨(some 25), .faddr 0 1 false (.tmp 24), none, false⟩,
              ⟨(some 26), .load 1 false (.tmp 25), none, false⟩,
              ⟨(some 27), .bi .len [9].toArray 3 [(.tmp 26)], none, false⟩,
              ⟨(some 28), .bin .gtr 3 (.tmp 27) (.const (.int .i64 30)), none, false⟩])
          (.cond (.tmp 28)
            (.seq (.region false [⟨(some 2), .move (.const (.bool false)), none, false⟩])
              (.ret))
            (.skip))))
      (.region false [⟨(some 19), .move (.tmp 3), none, false⟩,
          ⟨(some 20), .bin .add 3 (.tmp 19) (.const (.int .i64 1)), none, false⟩,
          ⟨(some 3), .move (.tmp 20), none, false⟩]))
/-- patchbay/patchbayref11.Small -/
def ac11 : AC :=
  .seq (.region false [⟨(some 1), .box false 36 (.tmp 0), none, false⟩,
        ⟨(some 2), .move (.const (.bool false)), none, false⟩])
    (.seq (.seq (.region false (⟨(some 4), .faddr 0 1 false (.tmp 1), none, false⟩ :: ⟨(some 5), .load 1 false (.tmp 4), none, false⟩ :: ⟨(some 6), .bi .len [9].toArray 3 [(.tmp 5)], none, false⟩ :: ⟨(some 7), .bin .gtr 3 (.tmp 6) (.const (.int .i64 30)), none, false⟩ :: ⟨(some 8), .move (.tmp 7), none, false⟩ :: (ac11_G1 ++ [])))
        (.cond (.tmp 13)
          (.seq (.region false [⟨(some 2), .move (.const (.bool false)), none, false⟩])
            (.ret))
          (.skip)))
      (.seq (.seq (.region false [⟨(some 3), .move (.const (.int .i64 0)), none, false⟩])
          (.block 0 (.loop ac11_L1)))
        (.seq (.region false [⟨(some 2), .move (.const (.bool true)), none, false⟩])
          (.ret))))
theorem text11 : FnText Try.prog 11 [] 29 1 ac11 [(2, none)] :=
  ⟨Try.call11, follows, Try.f11, _, Try.func11, rfl, rfl, by decide, by kernel_rfl, by kernel_rfl⟩

def ac12_G1 : List AOper :=
  [⟨(some 9), .faddr 2 1 false (.tmp 1), (some (8, false)), false⟩,
    ⟨(some 10), .load 1 false (.tmp 9), (some (8, false)), false⟩,
    ⟨(some 11), .bi .len [45].toArray 3 [(.tmp 10)], (some (8, false)), false⟩,
    ⟨(some 12), .bin .gtr 3 (.tmp 11) (.const (.int .i64 16)), (some (8, false)), false⟩,
    ⟨(some 13), .pick (.tmp 8) (.const (.bool true)) (.tmp 12), none, false⟩]
def ac12_G2 : List AOper :=
  [⟨(some 15), .faddr 0 1 false (.tmp 1), (some (14, false)), false⟩,
    ⟨(some 16), .load 1 false (.tmp 15), (some (14, false)), false⟩,
    ⟨(some 17), .bi .len [9].toArray 3 [(.tmp 16)], (some (14, false)), false⟩,
    ⟨(some 18), .bin .gtr 3 (.tmp 17) (.const (.int .i64 60)), (some (14, false)), false⟩,
    ⟨(some 19), .pick (.tmp 14) (.const (.bool true)) (.tmp 18), none, false⟩]
def ac12_G3 : List AOper :=
  [⟨(some 36), .faddr 2 1 false (.tmp 1), (some (35, false)), false⟩,
    ⟨(some 37), .load 1 false (.tmp 36), (some (35, false)), false⟩,
    ⟨(some 38), .move (.tmp 3), (some (35, false)), false⟩,
    ⟨(some 39), .iaddr 7 (.tmp 37) (.tmp 38), (some (35, false)), false⟩,
    ⟨(some 40), .faddr 6 1 false (.tmp 39), (some (35, false)), false⟩,
    ⟨(some 41), .load 1 false (.tmp 40), (some (35, false)), false⟩,
    ⟨(some 42), .bi .len [61].toArray 3 [(.tmp 41)], (some (35, false)), false⟩,
    ⟨(some 43), .bin .gtr 3 (.tmp 42) (.const (.int .i64 40)), (some (35, false)), false⟩,
    ⟨(some 44), .pick (.tmp 35) (.const (.bool true)) (.tmp 43), none, false⟩]
def ac12_L1 : AC :=
  .seq (.seq (.region false [⟨(some 20), .move (.tmp 3), none, false⟩,
          ⟨(some 21), .faddr 2 1 false (.tmp 1), none, false⟩,
          ⟨(some 22), .load 1 false (.tmp 21), none, false⟩,
          ⟨(some 23), .bi .len [45].toArray 3 [(.tmp 22)], none, false⟩,
          ⟨(some 24), .bin .lss 3 (.tmp 20) (.tmp 23), none, false⟩])
      (.cond (.tmp 24)
        (.skip)
        (.exit 0)))
    (.seq (.block 1 (.seq (.region false (⟨(some 27), .faddr 2 1 false (.tmp 1), none, false⟩ :: ⟨(some 28), .load 1 false (.tmp 27), none, false⟩ :: ⟨(some 29), .move (.tmp 3), none, false⟩ :: ⟨(some 30), .iaddr 7 (.tmp 28) (.tmp 29), none, false⟩ :: ⟨(some 31), .faddr 5 1 false (.tmp 30), none, false⟩ :: ⟨(some 32), .load 1 false (.tmp 31), none, false⟩ :: ⟨(some 33), .bi .len [61].toArray 3 [(.tmp 32)], none, false⟩ :: ⟨(some 34), .bin .gtr 3 (.tmp 33) (.const (.int .i64 40)), none, false⟩ :: ⟨(some 35), .move (.tmp 34), none, false⟩ :: (ac12_G3 ++ [])))
          (.cond (.tmp 44)
            (.seq (.region false [⟨(some 2), .move (.const (.bool true)), none, false⟩])
              (.ret))
            (.skip))))
      (.region false [⟨(some 25), .move (.tmp 3), none, false⟩,
          ⟨(some 26), .bin .add 3 (.tmp 25) (.const (.int .i64 1)), none, false⟩,
          ⟨(some 3), .move (.tmp 26), none, false⟩]))
/-- patchbay/patchbaylaw21.largeAction -/
def ac12 : AC :=
  .seq (.region false [⟨(some 1), .box false 47 (.tmp 0), none, false⟩,
        ⟨(some 2), .move (.const (.bool false)), none, false⟩])
    (.seq (.seq (.region false (⟨(some 4), .faddr 1 1 false (.tmp 1), none, false⟩ :: ⟨(some 5), .load 1 false (.tmp 4), none, false⟩ :: ⟨(some 6), .bi .len [23].toArray 3 [(.tmp 5)], none, false⟩ :: ⟨(some 7), .bin .gtr 3 (.tmp 6) (.const (.int .i64 8)), none, false⟩ :: ⟨(some 8), .move (.tmp 7), none, false⟩ :: (ac12_G1 ++ (⟨(some 14), .move (.tmp 13), none, false⟩ :: (ac12_G2 ++ [])))))
        (.cond (.tmp 19)
          (.seq (.region false [⟨(some 2), .move (.const (.bool true)), none, false⟩])
            (.ret))
          (.skip)))
      (.seq (.seq (.region false [⟨(some 3), .move (.const (.int .i64 0)), none, false⟩])
          (.block 0 (.loop ac12_L1)))
        (.seq (.region false [⟨(some 2), .move (.const (.bool false)), none, false⟩])
          (.ret))))
theorem text12 : FnText Try.prog 12 [] 45 1 ac12 [(2, none)] :=
  ⟨Try.call12, follows, Try.f12, _, Try.func12, rfl, rfl, by decide, by kernel_rfl, by kernel_rfl⟩

def ac13_G1 : List AOper :=
  [⟨(some 8), .faddr 5 1 false (.tmp 1), (some (7, false)), false⟩,
    ⟨(some 9), .load 1 false (.tmp 8), (some (7, false)), false⟩,
    ⟨(some 10), .bi .len [55].toArray 3 [(.tmp 9)], (some (7, false)), false⟩,
    ⟨(some 11), .bin .gtr 3 (.tmp 10) (.const (.int .i64 12)), (some (7, false)), false⟩,
    ⟨(some 12), .pick (.tmp 7) (.const (.bool true)) (.tmp 11), none, false⟩]
def ac13_G2 : List AOper :=
  [⟨(some 14), .faddr 0 1 false (.tmp 1), (some (13, false)), false⟩,
    ⟨(some 15), .load 1 false (.tmp 14), (some (13, false)), false⟩,
    ⟨(some 16), .bi .len [9].toArray 3 [(.tmp 15)], (some (13, false)), false⟩,
    ⟨(some 17), .bin .gtr 3 (.tmp 16) (.const (.int .i64 60)), (some (13, false)), false⟩,
    ⟨(some 18), .pick (.tmp 13) (.const (.bool true)) (.tmp 17), none, false⟩]
/-- patchbay/patchbaylaw21.largeState -/
def ac13 : AC :=
  .seq (.region false [⟨(some 1), .box false 57 (.tmp 0), none, false⟩,
        ⟨(some 2), .move (.const (.bool false)), none, false⟩])
    (.seq (.region false (⟨(some 3), .faddr 1 1 false (.tmp 1), none, false⟩ :: ⟨(some 4), .load 1 false (.tmp 3), none, false⟩ :: ⟨(some 5), .bi .len [29].toArray 3 [(.tmp 4)], none, false⟩ :: ⟨(some 6), .bin .gtr 3 (.tmp 5) (.const (.int .i64 8)), none, false⟩ :: ⟨(some 7), .move (.tmp 6), none, false⟩ :: (ac13_G1 ++ (⟨(some 13), .move (.tmp 12), none, false⟩ :: (ac13_G2 ++ [⟨(some 2), .move (.tmp 18), none, false⟩])))))
      (.ret))
theorem text13 : FnText Try.prog 13 [] 19 1 ac13 [(2, none)] :=
  ⟨Try.call13, follows, Try.f13, _, Try.func13, rfl, rfl, by decide, by kernel_rfl, by kernel_rfl⟩

def ac4_G1 : List AOper :=
  [⟨(some 12), .faddr 1 1 false (.tmp 1), (some (11, false)), false⟩,
    ⟨(some 13), .load 1 false (.tmp 12), (some (11, false)), false⟩,
    ⟨(some 14), .bi .len [22].toArray 3 [(.tmp 13)], (some (11, false)), false⟩,
    ⟨(some 15), .bin .gtr 3 (.tmp 14) (.const (.int .i64 16)), (some (11, false)), false⟩,
    ⟨(some 16), .pick (.tmp 11) (.const (.bool true)) (.tmp 15), none, false⟩]
def ac4_G2 : List AOper :=
  [⟨(some 18), .faddr 2 1 false (.tmp 1), (some (17, false)), false⟩,
    ⟨(some 19), .load 1 false (.tmp 18), (some (17, false)), false⟩,
    ⟨(some 20), .bi .len [23].toArray 3 [(.tmp 19)], (some (17, false)), false⟩,
    ⟨(some 21), .bin .gtr 3 (.tmp 20) (.const (.int .i64 20)), (some (17, false)), false⟩,
    ⟨(some 22), .pick (.tmp 17) (.const (.bool true)) (.tmp 21), none, false⟩]
def ac4_G3 : List AOper :=
  [⟨(some 24), .faddr 3 1 false (.tmp 1), (some (23, false)), false⟩,
    ⟨(some 25), .load 1 false (.tmp 24), (some (23, false)), false⟩,
    ⟨(some 26), .bi .len [24].toArray 3 [(.tmp 25)], (some (23, false)), false⟩,
    ⟨(some 27), .bin .gtr 3 (.tmp 26) (.const (.int .i64 8)), (some (23, false)), false⟩,
    ⟨(some 28), .pick (.tmp 23) (.const (.bool true)) (.tmp 27), none, false⟩]
def ac4_G4 : List AOper :=
  [⟨(some 30), .faddr 4 1 false (.tmp 1), (some (29, false)), false⟩,
    ⟨(some 31), .load 1 false (.tmp 30), (some (29, false)), false⟩,
    ⟨(some 32), .bi .len [25].toArray 3 [(.tmp 31)], (some (29, false)), false⟩,
    ⟨(some 33), .bin .gtr 3 (.tmp 32) (.const (.int .i64 24)), (some (29, false)), false⟩,
    ⟨(some 34), .pick (.tmp 29) (.const (.bool true)) (.tmp 33), none, false⟩]
def ac4_G5 : List AOper :=
  [⟨(some 36), .faddr 5 1 false (.tmp 1), (some (35, false)), false⟩,
    ⟨(some 37), .load 1 false (.tmp 36), (some (35, false)), false⟩,
    ⟨(some 38), .bi .len [26].toArray 3 [(.tmp 37)], (some (35, false)), false⟩,
    ⟨(some 39), .bin .gtr 3 (.tmp 38) (.const (.int .i64 16)), (some (35, false)), false⟩,
    ⟨(some 40), .pick (.tmp 35) (.const (.bool true)) (.tmp 39), none, false⟩]
def ac4_G6 : List AOper :=
  [⟨(some 42), .faddr 6 1 false (.tmp 1), (some (41, false)), false⟩,
    ⟨(some 43), .load 1 false (.tmp 42), (some (41, false)), false⟩,
    ⟨(some 44), .bi .len [27].toArray 3 [(.tmp 43)], (some (41, false)), false⟩,
    ⟨(some 45), .bin .gtr 3 (.tmp 44) (.const (.int .i64 16)), (some (41, false)), false⟩,
    ⟨(some 46), .pick (.tmp 41) (.const (.bool true)) (.tmp 45), none, false⟩]
def ac4_G7 : List AOper :=
  [⟨(some 48), .faddr 8 1 false (.tmp 1), (some (47, false)), false⟩,
    ⟨(some 49), .load 1 false (.tmp 48), (some (47, false)), false⟩,
    ⟨(some 50), .bi .len [29].toArray 3 [(.tmp 49)], (some (47, false)), false⟩,
    ⟨(some 51), .bin .gtr 3 (.tmp 50) (.const (.int .i64 16)), (some (47, false)), false⟩,
    ⟨(some 52), .pick (.tmp 47) (.const (.bool true)) (.tmp 51), none, false⟩]
def ac4_G8 : List AOper :=
  [⟨(some 54), .faddr 7 1 false (.tmp 1), (some (53, false)), false⟩,
    ⟨(some 55), .load 1 false (.tmp 54), (some (53, false)), false⟩,
    ⟨(some 56), .call (.func 10) [(.tmp 55), (.const (.int .i64 10))], (some (53, false)), false⟩,
    ⟨(some 57), .bin .gtr 3 (.tmp 56) (.const (.int .i64 60)), (some (53, false)), false⟩,
    ⟨(some 58), .pick (.tmp 53) (.const (.bool true)) (.tmp 57), none, false⟩]
def ac4_L1 : AC :=
  .seq (.seq (.region false [⟨(some 59), .move (.tmp 3), none, false⟩,
          ⟨(some 60), .faddr 1 1 false (.tmp 1), none, false⟩,
          ⟨(some 61), .load 1 false (.tmp 60), none, false⟩,
          ⟨(some 62), .bi .len [22].toArray 3 [(.tmp 61)], none, false⟩,
          ⟨(some 63), .bin .lss 3 (.tmp 59) (.tmp 62), none, false⟩])
      (.cond (.tmp 63)
        (.skip)
        (.exit 0)))
    (.seq (.block 1 (.seq (.region false [⟨(some 66), .faddr 1 1 false (.tmp 1), none, false⟩,
              ⟨(some 67), .load 1 false (.tmp 66), none, false⟩,
              ⟨(some 68), .move (.tmp 3), none, false⟩,
              ⟨(some 69), .iaddr 2 (.tmp 67) (.tmp 68), none, false⟩,
              ⟨(some 70), .load 2 true (.tmp 69), none, false⟩,
              ⟨(some 71), .call (.func 11) [(.tmp 70)], none, false⟩,
              ⟨(some 72), .un .not (.tmp 71), none, false⟩])
          (.cond (.tmp 72)
            (.seq (.region false [⟨(some 2), .move (.const (.bool true)), none, false⟩])
              (.ret))
            (.skip))))
      (.region false [⟨(some 64), .move (.tmp 3), none, false⟩,
          ⟨(some 65), .bin .add 3 (.tmp 64) (.const (.int .i64 1)), none, false⟩,
          ⟨(some 3), .move (.tmp 65), none, false⟩]))
def ac4_L2 : AC :=
  .seq (.seq (.region false [⟨(some 73), .move (.tmp 4), none, false⟩,
          ⟨(some 74), .faddr 4 1 false (.tmp 1), none, false⟩,
          ⟨(some 75), .load 1 false (.tmp 74), none, false⟩,
          ⟨(some 76), .bi .len [25].toArray 3 [(.tmp 75)], none, false⟩,
          ⟨(some 77), .bin .lss 3 (.tmp 73) (.tmp 76), none, false⟩])
      (.cond (.tmp 77)
        (.skip)
        (.exit 2)))
    (.seq (.block 3 (.seq (.region false [⟨(some 80), .faddr 4 1 false (.tmp 1), none, false⟩,
              ⟨(some 81), .load 1 false (.tmp 80), none, false⟩,
              ⟨(some 82), .move (.tmp 4), none, false⟩,
              ⟨(some 83), .iaddr 3 (.tmp 81) (.tmp 82), none, false⟩,
              ⟨(some 84), .load 3 true (.tmp 83), none, false⟩,
              ⟨(some 85), .call (.func 12) [(.tmp 84)], none, false⟩])
          (.cond (.tmp 85)
            (.seq (.region false [⟨(some 2), .move (.const (.bool true)), none, false⟩])
              (.ret))
            (.skip))))
      (.region false [⟨(some 78), .move (.tmp 4), none, false⟩,
          ⟨(some 79), .bin .add 3 (.tmp 78) (.const (.int .i64 1)), none, false⟩,
          ⟨(some 4), .move (.tmp 79), none, false⟩]))
def ac4_G9 : List AOper :=
  [⟨(some 102), .faddr 5 1 false (.tmp 1), (some (101, false)), false⟩,
    ⟨(some 103), .load 1 false (.tmp 102), (some (101, false)), false⟩,
    ⟨(some 104), .move (.tmp 5), (some (101, false)), false⟩,
    ⟨(some 105), .iaddr 6 (.tmp 103) (.tmp 104), (some (101, false)), false⟩,
    ⟨(some 106), .faddr 2 1 false (.tmp 105), (some (101, false)), false⟩,
    ⟨(some 107), .load 1 false (.tmp 106), (some (101, false)), false⟩,
    ⟨(some 108), .bi .len [29].toArray 3 [(.tmp 107)], (some (101, false)), false⟩,
    ⟨(some 109), .bin .gtr 3 (.tmp 108) (.const (.int .i64 24)), (some (101, false)), false⟩,
    ⟨(some 110), .pick (.tmp 101) (.const (.bool true)) (.tmp 109), none, false⟩]
def ac4_G10 : List AOper :=
  [⟨(some 112), .faddr 5 1 false (.tmp 1), (some (111, false)), false⟩,
    ⟨(some 113), .load 1 false (.tmp 112), (some (111, false)), false⟩,
    ⟨(some 114), .move (.tmp 5), (some (111, false)), false⟩,
    ⟨(some 115), .iaddr 6 (.tmp 113) (.tmp 114), (some (111, false)), false⟩,
    ⟨(some 116), .faddr 3 2 true (.tmp 115), (some (111, false)), false⟩,
    ⟨(some 117), .faddr 1 1 false (.tmp 116), (some (111, false)), false⟩,
    ⟨(some 118), .load 1 false (.tmp 117), (some (111, false)), false⟩,
    ⟨(some 119), .bi .len [49].toArray 3 [(.tmp 118)], (some (111, false)), false⟩,
    ⟨(some 120), .bin .gtr 3 (.tmp 119) (.const (.int .i64 8)), (some (111, false)), false⟩,
    ⟨(some 121), .pick (.tmp 111) (.const (.bool true)) (.tmp 120), none, false⟩]
def ac4_G11 : List AOper :=
  [⟨(some 123), .faddr 5 1 false (.tmp 1), (some (122, false)), false⟩,
    ⟨(some 124), .load 1 false (.tmp 123), (some (122, false)), false⟩,
    ⟨(some 125), .move (.tmp 5), (some (122, false)), false⟩,
    ⟨(some 126), .iaddr 6 (.tmp 124) (.tmp 125), (some (122, false)), false⟩,
    ⟨(some 127), .faddr 0 1 false (.tmp 126), (some (122, false)), false⟩,
    ⟨(some 128), .load 1 false (.tmp 127), (some (122, false)), false⟩,
    ⟨(some 129), .bi .len [9].toArray 3 [(.tmp 128)], (some (122, false)), false⟩,
    ⟨(some 130), .bin .gtr 3 (.tmp 129) (.const (.int .i64 60)), (some (122, false)), false⟩,
    ⟨(some 131), .pick (.tmp 122) (.const (.bool true)) (.tmp 130), none, false⟩]
def ac4_L3 : AC :=
  .seq (.seq (.region false [⟨(some 86), .move (.tmp 5), none, false⟩,
          ⟨(some 87), .faddr 5 1 false (.tmp 1), none, false⟩,
          ⟨(some 88), .load 1 false (.tmp 87), none, false⟩,
          ⟨(some 89), .bi .len [26].toArray 3 [(.tmp 88)], none, false⟩,
          ⟨(some 90), .bin .lss 3 (.tmp 86) (.tmp 89), none, false⟩])
      (.cond (.tmp 90)
        (.skip)
        (.exit 4)))
    (.seq (.block 5 (.seq (.region false (⟨(some 93), .faddr 5 1 false (.tmp 1), none, false⟩ :: ⟨(some 94), .load 1 false (.tmp 93), none, false⟩ :: ⟨(some 95), .move (.tmp 5), none, false⟩ :: ⟨(some 96), .iaddr 6 (.tmp 94) (.tmp 95), none, false⟩ :: ⟨(some 97), .faddr 1 1 false (.tmp 96), none, false⟩ :: ⟨(some 98), .load 1 false (.tmp 97), none, false⟩ :: ⟨(some 99), .bi .len [48].toArray 3 [(.tmp 98)], none, false⟩ :: ⟨(some 100), .bin .gtr 3 (.tmp 99) (.const (.int .i64 10)), none, false⟩ :: ⟨(some 101), .move (.tmp 100), none, false⟩ :: (ac4_G9 ++ (⟨(some 111), .move (.tmp 110), none, false⟩ :: (ac4_G10 ++ (⟨(some 122), .move (.tmp 121), none, false⟩ :: (ac4_G11 ++ [])))))))
          (.cond (.tmp 131)
            (.seq (.region false [⟨(some 2), .move (.const (.bool true)), none, false⟩])
              (.ret))
            (.skip))))
      (.region false [⟨(some 91), .move (.tmp 5), none, false⟩,
          ⟨(some 92), .bin .add 3 (.tmp 91) (.const (.int .i64 1)), none, false⟩,
          ⟨(some 5), .move (.tmp 92), none, false⟩]))
def ac4_L4 : AC :=
  .seq (.seq (.region false [⟨(some 132), .move (.tmp 6), none, false⟩,
          ⟨(some 133), .faddr 6 1 false (.tmp 1), none, false⟩,
          ⟨(some 134), .load 1 false (.tmp 133), none, false⟩,
          ⟨(some 135), .bi .len [27].toArray 3 [(.tmp 134)], none, false⟩,
          ⟨(some 136), .bin .lss 3 (.tmp 132) (.tmp 135), none, false⟩])
      (.cond (.tmp 136)
        (.skip)
        (.exit 6)))
    (.seq (.block 7 (.seq (.region false [⟨(some 139), .faddr 6 1 false (.tmp 1), none, false⟩,
              ⟨(some 140), .load 1 false (.tmp 139), none, false⟩,
              ⟨(some 141), .move (.tmp 6), none, false⟩,
              ⟨(some 142), .iaddr 7 (.tmp 140) (.tmp 141), none, false⟩,
              ⟨(some 143), .load 7 true (.tmp 142), none, false⟩,
              ⟨(some 144), .call (.func 13) [(.tmp 143)], none, false⟩])
          (.cond (.tmp 144)
            (.seq (.region false [⟨(some 2), .move (.const (.bool true)), none, false⟩])
              (.ret))
            (.skip))))
      (.region false [⟨(some 137), .move (.tmp 6), none, false⟩,
          ⟨(some 138), .bin .add 3 (.tmp 137) (.const (.int .i64 1)), none, false⟩,
          ⟨(some 6), .move (.tmp 138), none, false⟩]))
/-- patchbay/patchbaylaw21.TooLarge -/
def ac4 : AC :=
  .seq (.region false [⟨(some 1), .box false 31 (.tmp 0), none, false⟩,
        ⟨(some 2), .move (.const (.bool false)), none, false⟩])
    (.seq (.seq (.region false (⟨(some 7), .faddr 0 1 false (.tmp 1), none, false⟩ :: ⟨(some 8), .load 1 false (.tmp 7), none, false⟩ :: ⟨(some 9), .bi .len [9].toArray 3 [(.tmp 8)], none, false⟩ :: ⟨(some 10), .bin .gtr 3 (.tmp 9) (.const (.int .i64 60)), none, false⟩ :: ⟨(some 11), .move (.tmp 10), none, false⟩ :: (ac4_G1 ++ (⟨(some 17), .move (.tmp 16), none, false⟩ :: (ac4_G2 ++ (⟨(some 23), .move (.tmp 22), none, false⟩ :: (ac4_G3 ++ (⟨(some 29), .move (.tmp 28), none, false⟩ :: (ac4_G4 ++ (⟨(some 35), .move (.tmp 34), none, false⟩ :: (ac4_G5 ++ (⟨(some 41), .move (.tmp 40), none, false⟩ :: (ac4_G6 ++ (⟨(some 47), .move (.tmp 46), none, false⟩ :: (ac4_G7 ++ (⟨(some 53), .move (.tmp 52), none, false⟩ :: (ac4_G8 ++ [])))))))))))))))))
        (.cond (.tmp 58)
          (.seq (.region false [⟨(some 2), .move (.const (.bool true)), none, false⟩])
            (.ret))
          (.skip)))
      (.seq (.seq (.region false [⟨(some 3), .move (.const (.int .i64 0)), none, false⟩])
          (.block 0 (.loop ac4_L1)))
        (.seq (.seq (.region false [⟨(some 4), .move (.const (.int .i64 0)), none, false⟩])
            (.block 2 (.loop ac4_L2)))
          (.seq (.seq (.region false [⟨(some 5), .move (.const (.int .i64 0)), none, false⟩])
              (.block 4 (.loop ac4_L3)))
            (.seq (.seq (.region false [⟨(some 6), .move (.const (.int .i64 0)), none, false⟩])
                (.block 6 (.loop ac4_L4)))
              (.seq (.region false [⟨(some 2), .move (.const (.bool false)), none, false⟩])
                (.ret)))))))
theorem text4 : FnText Try.prog 4 [] 145 1 ac4 [(2, none)] :=
  ⟨Try.call4, follows, Try.f4, _, Try.func4, rfl, rfl, by decide, by kernel_rfl, by kernel_rfl⟩

def ac5_G1 : List AOper :=
  [⟨(some 11), .load 9 true (.tmp 1), (some (10, true)), false⟩,
    ⟨(some 12), .build [(.int .i64 0), (.int .i64 0)] [(0, 1, (.const (.int .i64 1)))], (some (10, true)), false⟩,
    ⟨(some 13), .call (.func 7) [(.tmp 11), (.tmp 12)], (some (10, true)), false⟩,
    ⟨(some 14), .bin .eql 3 (.tmp 13) (.const (.int .i64 1)), (some (10, true)), false⟩,
    ⟨(some 15), .pick (.tmp 10) (.tmp 14) (.const (.bool false)), none, false⟩]
def ac5_G2 : List AOper :=
  [⟨(some 17), .load 9 true (.tmp 1), (some (16, true)), false⟩,
    ⟨(some 18), .call (.func 6) [(.tmp 17), (.const (.int .i64 1))], (some (16, true)), false⟩,
    ⟨(some 19), .bin .eql 3 (.tmp 18) (.const (.int .i64 4)), (some (16, true)), false⟩,
    ⟨(some 20), .pick (.tmp 16) (.tmp 19) (.const (.bool false)), none, false⟩]
def ac5_G3 : List AOper :=
  [⟨(some 22), .load 9 true (.tmp 1), (some (21, true)), false⟩,
    ⟨(some 23), .build [(.int .i64 0), (.int .i64 0)] [(0, 1, (.const (.int .i64 (-1))))], (some (21, true)), false⟩,
    ⟨(some 24), .call (.func 7) [(.tmp 22), (.tmp 23)], (some (21, true)), false⟩,
    ⟨(some 25), .bin .eql 3 (.tmp 24) (.const (.int .i64 5)), (some (21, true)), false⟩,
    ⟨(some 26), .pick (.tmp 21) (.tmp 25) (.const (.bool false)), none, false⟩]
def ac5_G4 : List AOper :=
  [⟨(some 28), .load 9 true (.tmp 1), (some (27, true)), false⟩,
    ⟨(some 29), .call (.func 8) [(.tmp 28), (.const (.int .i64 0))], (some (27, true)), false⟩,
    ⟨(some 30), .bin .eql 3 (.tmp 29) (.const (.int .i64 8)), (some (27, true)), false⟩,
    ⟨(some 31), .pick (.tmp 27) (.tmp 30) (.const (.bool false)), none, false⟩]
def ac5_G5 : List AOper :=
  [⟨(some 33), .load 9 true (.tmp 1), (some (32, true)), false⟩,
    ⟨(some 34), .call (.func 8) [(.tmp 33), (.const (.int .i64 1))], (some (32, true)), false⟩,
    ⟨(some 35), .bin .eql 3 (.tmp 34) (.const (.int .i64 (-1))), (some (32, true)), false⟩,
    ⟨(some 36), .pick (.tmp 32) (.tmp 35) (.const (.bool false)), none, false⟩]
def ac5_G6 : List AOper :=
  [⟨(some 38), .load 9 true (.tmp 1), (some (37, true)), false⟩,
    ⟨(some 39), .call (.func 15) [(.tmp 38), (.const (.int .i64 2))], (some (37, true)), false⟩,
    ⟨(some 40), .bin .eql 3 (.tmp 39) (.const (.int .i64 4)), (some (37, true)), false⟩,
    ⟨(some 41), .pick (.tmp 37) (.tmp 40) (.const (.bool false)), none, false⟩]
def ac5_G7 : List AOper :=
  [⟨(some 43), .load 9 true (.tmp 1), (some (42, true)), false⟩,
    ⟨(some 44), .build [(.int .i64 0), (.slice none 0 0), (.slice none 0 0)] [], (some (42, true)), false⟩,
    ⟨(some 45), .call (.func 17) [(.tmp 43), (.tmp 44)], (some (42, true)), false⟩,
    ⟨(some 46), .bslice false 3 1 false [(.const (.int .i64 4)), (.const (.int .i64 5))], (some (42, true)), false⟩,
    ⟨(some 47), .call (.func 16) [(.tmp 45), (.tmp 46)], (some (42, true)), false⟩,
    ⟨(some 48), .pick (.tmp 42) (.tmp 47) (.const (.bool false)), none, false⟩]
def ac5_G8 : List AOper :=
  [⟨(some 50), .load 9 true (.tmp 1), (some (49, true)), false⟩,
    ⟨(some 51), .build [(.int .i64 0), (.slice none 0 0), (.slice none 0 0)] [], (some (49, true)), false⟩,
    ⟨(some 52), .call (.func 18) [(.tmp 50), (.tmp 51)], (some (49, true)), false⟩,
    ⟨(some 53), .bslice false 3 1 false [(.const (.int .i64 2))], (some (49, true)), false⟩,
    ⟨(some 54), .call (.func 16) [(.tmp 52), (.tmp 53)], (some (49, true)), false⟩,
    ⟨(some 55), .pick (.tmp 49) (.tmp 54) (.const (.bool false)), none, false⟩]
def ac5_G9 : List AOper :=
  [⟨(some 57), .load 9 true (.tmp 1), (some (56, true)), false⟩,
    ⟨(some 58), .load 3 true (.tmp 2), (some (56, true)), false⟩,
    ⟨(some 59), .call (.func 17) [(.tmp 57), (.tmp 58)], (some (56, true)), false⟩,
    ⟨(some 60), .bslice false 3 1 false [(.const (.int .i64 4))], (some (56, true)), false⟩,
    ⟨(some 61), .call (.func 16) [(.tmp 59), (.tmp 60)], (some (56, true)), false⟩,
    ⟨(some 62), .pick (.tmp 56) (.tmp 61) (.const (.bool false)), none, false⟩]
/-- patchbay/patchbaylaw31.works -/
def ac5 : AC :=
  .seq (.region false [⟨(some 0), .move (.const (.bool false)), none, false⟩])
    (.seq (.region false [⟨(some 3), .call (.func 14) [], none, false⟩,
          ⟨(some 1), .alloc true 31 (.agg [(.string ⟨[].toArray⟩), (.slice none 0 0), (.slice none 0 0), (.slice none 0 0), (.slice none 0 0), (.slice none 0 0), (.slice none 0 0), (.slice none 0 0), (.slice none 0 0)].toArray), none, false⟩,
          ⟨none, .store 9 (.tmp 1) (.tmp 3), none, false⟩])
      (.seq (.region false [⟨(some 4), .build [(.int .i64 0), (.int .i64 0), (.int .i64 0)] [(0, 1, (.const (.int .i64 4))), (1, 1, (.const (.int .i64 1)))], none, false⟩,
            ⟨(some 5), .bslice false 60 3 false [(.tmp 4)], none, false⟩,
            ⟨(some 6), .build [(.int .i64 0), (.slice none 0 0), (.slice none 0 0)] [(0, 1, (.const (.int .i64 (-1)))), (1, 1, (.tmp 5))], none, false⟩,
            ⟨(some 2), .alloc true 64 (.agg [(.int .i64 0), (.slice none 0 0), (.slice none 0 0)].toArray), none, false⟩,
            ⟨none, .store 3 (.tmp 2) (.tmp 6), none, false⟩])
        (.seq (.region false (⟨(some 7), .load 9 true (.tmp 1), none, false⟩ :: ⟨(some 8), .call (.func 9) [(.tmp 7)], none, false⟩ :: ⟨(some 9), .bin .eql 3 (.tmp 8) (.const (.int .i64 9)), none, false⟩ :: ⟨(some 10), .move (.tmp 9), none, false⟩ :: (ac5_G1 ++ (⟨(some 16), .move (.tmp 15), none, false⟩ :: (ac5_G2 ++ (⟨(some 21), .move (.tmp 20), none, false⟩ :: (ac5_G3 ++ (⟨(some 27), .move (.tmp 26), none, false⟩ :: (ac5_G4 ++ (⟨(some 32), .move (.tmp 31), none, false⟩ :: (ac5_G5 ++ (⟨(some 37), .move (.tmp 36), none, false⟩ :: (ac5_G6 ++ (⟨(some 42), .move (.tmp 41), none, false⟩ :: (ac5_G7 ++ (⟨(some 49), .move (.tmp 48), none, false⟩ :: (ac5_G8 ++ (⟨(some 56), .move (.tmp 55), none, false⟩ :: (ac5_G9 ++ [⟨(some 0), .move (.tmp 62), none, false⟩])))))))))))))))))))
          (.ret))))
theorem text5 : FnText Try.prog 5 [1, 2] 63 0 ac5 [(0, none)] :=
  ⟨Try.call5, follows, Try.f5, _, Try.func5, rfl, rfl, by decide, by kernel_rfl, by kernel_rfl⟩

def ac30_L1 : AC :=
  .seq (.region false [⟨(some 20), .bin .lss 3 (.tmp 19) (.tmp 18), none, false⟩])
    (.seq (.cond (.tmp 20)
        (.skip)
        (.exit 0))
      (.seq (.block 1 (.seq (.region false [⟨(some 21), .iaddr 2 (.tmp 17) (.tmp 19), none, false⟩,
                ⟨(some 22), .load 2 true (.tmp 21), none, false⟩,
                ⟨(some 5), .alloc true 36 (.agg [(.string ⟨[].toArray⟩), (.slice none 0 0)].toArray), none, false⟩,
                ⟨none, .store 2 (.tmp 5) (.tmp 22), none, false⟩])
            (.region false [⟨(some 23), .iaddrA 4 1 false (.tmp 3) (.const (.int .i64 0)), none, false⟩,
                ⟨(some 24), .load 1 false (.tmp 23), none, false⟩,
                ⟨(some 25), .faddr 1 1 false (.tmp 5), none, false⟩,
                ⟨(some 26), .load 1 false (.tmp 25), none, false⟩,
                ⟨(some 27), .bi .len [23].toArray 3 [(.tmp 26)], none, false⟩,
                ⟨(some 28), .bin .add 3 (.tmp 24) (.tmp 27), none, false⟩,
                ⟨(some 29), .iaddrA 4 1 false (.tmp 3) (.const (.int .i64 0)), none, false⟩,
                ⟨none, .store 1 (.tmp 29) (.tmp 28), none, false⟩])))
        (.region false [⟨(some 30), .bin .add 3 (.tmp 19) (.const (.int .i64 1)), none, false⟩,
            ⟨(some 19), .move (.tmp 30), none, false⟩])))
/-- patchbay/access.counts -/
def ac30 : AC :=
  .seq (.region false [⟨(some 1), .box false 31 (.tmp 0), none, false⟩,
        ⟨(some 2), .alloc true 90 (.agg [(.int .i64 0), (.int .i64 0), (.int .i64 0), (.int .i64 0)].toArray), none, false⟩])
    (.seq (.region false [⟨(some 6), .faddr 1 1 false (.tmp 1), none, false⟩,
          ⟨(some 7), .load 1 false (.tmp 6), none, false⟩,
          ⟨(some 8), .bi .len [22].toArray 3 [(.tmp 7)], none, false⟩,
          ⟨(some 9), .faddr 2 1 false (.tmp 1), none, false⟩,
          ⟨(some 10), .load 1 false (.tmp 9), none, false⟩,
          ⟨(some 11), .bi .len [23].toArray 3 [(.tmp 10)], none, false⟩,
          ⟨(some 12), .faddr 3 1 false (.tmp 1), none, false⟩,
          ⟨(some 13), .load 1 false (.tmp 12), none, false⟩,
          ⟨(some 14), .bi .len [24].toArray 3 [(.tmp 13)], none, false⟩,
          ⟨(some 15), .build [(.int .i64 0), (.int .i64 0), (.int .i64 0), (.int .i64 0)] [(1, 1, (.tmp 8)), (2, 1, (.tmp 11)), (3, 1, (.tmp 14))], none, false⟩,
          ⟨(some 3), .alloc true 90 (.agg [(.int .i64 0), (.int .i64 0), (.int .i64 0), (.int .i64 0)].toArray), none, false⟩,
          ⟨none, .store 4 (.tmp 3) (.tmp 15), none, false⟩])
      (.seq (.seq (.region false [⟨(some 16), .faddr 1 1 false (.tmp 1), none, false⟩,
              ⟨(some 17), .load 1 false (.tmp 16), none, false⟩,
              ⟨(some 18), .bi .len [22].toArray 3 [(.tmp 17)], none, false⟩,
              ⟨(some 19), .move (.const (.int .i64 0)), none, false⟩])
          (.block 0 (.loop ac30_L1)))
        (.seq (.region false [⟨(some 31), .load 4 true (.tmp 3), none, false⟩,
              ⟨none, .store 4 (.tmp 2) (.tmp 31), none, false⟩])
          (.ret))))
theorem text30 : FnText Try.prog 30 [2, 3, 5] 32 1 ac30 [(2, some (4, true))] :=
  ⟨Try.call30, follows, Try.f30, _, Try.func30, rfl, rfl, by decide, by kernel_rfl, by kernel_rfl⟩

def ac20_L1 : AC :=
  .seq (.region false [⟨(some 11), .bin .lss 3 (.tmp 10) (.const (.int .i64 4)), none, false⟩])
    (.seq (.cond (.tmp 11)
        (.skip)
        (.exit 0))
      (.seq (.block 1 (.seq (.region false [⟨(some 12), .move (.tmp 10), none, false⟩,
                ⟨(some 13), .indexA 4 1 false (.tmp 9) (.tmp 10), none, false⟩,
                ⟨(some 6), .move (.tmp 12), none, false⟩,
                ⟨(some 7), .move (.tmp 13), none, false⟩])
            (.seq (.region false [⟨(some 14), .move (.tmp 6), none, false⟩,
                  ⟨(some 15), .move (.tmp 1), none, false⟩,
                  ⟨(some 16), .bin .lss 3 (.tmp 14) (.tmp 15), none, false⟩])
              (.cond (.tmp 16)
                (.region false [⟨(some 17), .move (.tmp 5), none, false⟩,
                    ⟨(some 18), .move (.tmp 7), none, false⟩,
                    ⟨(some 19), .bin .add 3 (.tmp 17) (.tmp 18), none, false⟩,
                    ⟨(some 5), .move (.tmp 19), none, false⟩])
                (.skip)))))
        (.region false [⟨(some 20), .bin .add 3 (.tmp 10) (.const (.int .i64 1)), none, false⟩,
            ⟨(some 10), .move (.tmp 20), none, false⟩])))
/-- patchbay/access.first -/
def ac20 : AC :=
  .seq (.region false [⟨(some 2), .box false 31 (.tmp 0), none, false⟩,
        ⟨(some 4), .move (.const (.int .i64 0)), none, false⟩])
    (.seq (.region false [⟨(some 5), .move (.const (.int .i64 0)), none, false⟩])
      (.seq (.seq (.region false [⟨(some 8), .load 9 true (.tmp 2), none, false⟩,
              ⟨(some 9), .call (.func 30) [(.tmp 8)], none, false⟩,
              ⟨(some 10), .move (.const (.int .i64 0)), none, false⟩])
          (.block 0 (.loop ac20_L1)))
        (.seq (.region false [⟨(some 21), .move (.tmp 5), none, false⟩,
              ⟨(some 4), .move (.tmp 21), none, false⟩])
          (.ret))))
theorem text20 : FnText Try.prog 20 [] 22 2 ac20 [(4, none)] :=
  ⟨Try.call20, follows, Try.f20, _, Try.func20, rfl, rfl, by decide, by kernel_rfl, by kernel_rfl⟩

def ac19_G1 : List AOper :=
  [⟨(some 10), .move (.tmp 2), (some (9, false)), false⟩,
    ⟨(some 11), .load 9 true (.tmp 3), (some (9, false)), false⟩,
    ⟨(some 12), .call (.func 30) [(.tmp 11)], (some (9, false)), false⟩,
    ⟨(some 13), .move (.tmp 1), (some (9, false)), false⟩,
    ⟨(some 14), .indexA 4 1 false (.tmp 12) (.tmp 13), (some (9, false)), false⟩,
    ⟨(some 15), .bin .geq 3 (.tmp 10) (.tmp 14), (some (9, false)), false⟩,
    ⟨(some 16), .pick (.tmp 9) (.const (.bool true)) (.tmp 15), none, false⟩]
/-- patchbay/access.cell -/
def ac19 : AC :=
  .seq (.region false [⟨(some 3), .box false 31 (.tmp 0), none, false⟩,
        ⟨(some 6), .move (.const (.int .i64 0)), none, false⟩])
    (.seq (.seq (.region false (⟨(some 7), .move (.tmp 2), none, false⟩ :: ⟨(some 8), .bin .lss 3 (.tmp 7) (.const (.int .i64 0)), none, false⟩ :: ⟨(some 9), .move (.tmp 8), none, false⟩ :: (ac19_G1 ++ [])))
        (.cond (.tmp 16)
          (.seq (.region false [⟨(some 6), .move (.const (.int .i64 (-1))), none, false⟩])
            (.ret))
          (.skip)))
      (.seq (.region false [⟨(some 17), .load 9 true (.tmp 3), none, false⟩,
            ⟨(some 18), .move (.tmp 1), none, false⟩,
            ⟨(some 19), .call (.func 20) [(.tmp 17), (.tmp 18)], none, false⟩,
            ⟨(some 20), .move (.tmp 2), none, false⟩,
            ⟨(some 21), .bin .add 3 (.tmp 19) (.tmp 20), none, false⟩,
            ⟨(some 6), .move (.tmp 21), none, false⟩])
        (.ret)))
theorem text19 : FnText Try.prog 19 [] 22 3 ac19 [(6, none)] :=
  ⟨Try.call19, follows, Try.f19, _, Try.func19, rfl, rfl, by decide, by kernel_rfl, by kernel_rfl⟩


/-- patchbay/access.ValidCell -/
def ac6 : AC :=
  .seq (.region false [⟨(some 2), .box false 31 (.tmp 0), none, false⟩,
        ⟨(some 4), .move (.const (.int .i64 0)), none, false⟩])
    (.seq (.region false [⟨(some 5), .load 9 true (.tmp 2), none, false⟩,
          ⟨(some 6), .move (.tmp 1), none, false⟩,
          ⟨(some 7), .call (.func 19) [(.tmp 5), (.const (.int .i64 1)), (.tmp 6)], none, false⟩,
          ⟨(some 4), .move (.tmp 7), none, false⟩])
      (.ret))
theorem text6 : FnText Try.prog 6 [] 8 2 ac6 [(4, none)] :=
  ⟨Try.call6, follows, Try.f6, _, Try.func6, rfl, rfl, by decide, by kernel_rfl, by kernel_rfl⟩

def ac7_G1 : List AOper :=
  [⟨(some 19), .faddr 0 1 false (.tmp 3), (some (18, false)), false⟩,
    ⟨(some 20), .load 1 false (.tmp 19), (some (18, false)), false⟩,
    ⟨(some 21), .faddr 1 1 false (.tmp 2), (some (18, false)), false⟩,
    ⟨(some 22), .load 1 false (.tmp 21), (some (18, false)), false⟩,
    ⟨(some 23), .bi .len [22].toArray 3 [(.tmp 22)], (some (18, false)), false⟩,
    ⟨(some 24), .bin .geq 3 (.tmp 20) (.tmp 23), (some (18, false)), false⟩,
    ⟨(some 25), .pick (.tmp 18) (.const (.bool true)) (.tmp 24), none, false⟩]
def ac7_G2 : List AOper :=
  [⟨(some 27), .faddr 1 1 false (.tmp 3), (some (26, false)), false⟩,
    ⟨(some 28), .load 1 false (.tmp 27), (some (26, false)), false⟩,
    ⟨(some 29), .bin .lss 3 (.tmp 28) (.const (.int .i64 0)), (some (26, false)), false⟩,
    ⟨(some 30), .pick (.tmp 26) (.const (.bool true)) (.tmp 29), none, false⟩]
def ac7_G3 : List AOper :=
  [⟨(some 32), .faddr 1 1 false (.tmp 3), (some (31, false)), false⟩,
    ⟨(some 33), .load 1 false (.tmp 32), (some (31, false)), false⟩,
    ⟨(some 34), .faddr 1 1 false (.tmp 2), (some (31, false)), false⟩,
    ⟨(some 35), .load 1 false (.tmp 34), (some (31, false)), false⟩,
    ⟨(some 36), .faddr 0 1 false (.tmp 3), (some (31, false)), false⟩,
    ⟨(some 37), .load 1 false (.tmp 36), (some (31, false)), false⟩,
    ⟨(some 38), .iaddr 2 (.tmp 35) (.tmp 37), (some (31, false)), false⟩,
    ⟨(some 39), .faddr 1 1 false (.tmp 38), (some (31, false)), false⟩,
    ⟨(some 40), .load 1 false (.tmp 39), (some (31, false)), false⟩,
    ⟨(some 41), .bi .len [23].toArray 3 [(.tmp 40)], (some (31, false)), false⟩,
    ⟨(some 42), .bin .geq 3 (.tmp 33) (.tmp 41), (some (31, false)), false⟩,
    ⟨(some 43), .pick (.tmp 31) (.const (.bool true)) (.tmp 42), none, false⟩]
def ac7_L1 : AC :=
  .seq (.region false [⟨(some 53), .bin .lss 3 (.tmp 52) (.tmp 51), none, false⟩])
    (.seq (.cond (.tmp 53)
        (.skip)
        (.exit 0))
      (.seq (.block 1 (.seq (.region false [⟨(some 54), .iaddr 2 (.tmp 50) (.tmp 52), none, false⟩,
                ⟨(some 55), .load 2 true (.tmp 54), none, false⟩,
                ⟨(some 7), .alloc true 36 (.agg [(.string ⟨[].toArray⟩), (.slice none 0 0)].toArray), none, false⟩,
                ⟨none, .store 2 (.tmp 7) (.tmp 55), none, false⟩])
            (.region false [⟨(some 56), .move (.tmp 5), none, false⟩,
                ⟨(some 57), .faddr 1 1 false (.tmp 7), none, false⟩,
                ⟨(some 58), .load 1 false (.tmp 57), none, false⟩,
                ⟨(some 59), .bi .len [23].toArray 3 [(.tmp 58)], none, false⟩,
                ⟨(some 60), .bin .add 3 (.tmp 56) (.tmp 59), none, false⟩,
                ⟨(some 5), .move (.tmp 60), none, false⟩])))
        (.region false [⟨(some 61), .bin .add 3 (.tmp 52) (.const (.int .i64 1)), none, false⟩,
            ⟨(some 52), .move (.tmp 61), none, false⟩])))
/-- patchbay/access.FieldCell -/
def ac7 : AC :=
  .seq (.region false [⟨(some 2), .box false 31 (.tmp 0), none, false⟩,
        ⟨(some 3), .box false 39 (.tmp 1), none, false⟩,
        ⟨(some 4), .move (.const (.int .i64 0)), none, false⟩])
    (.seq (.seq (.region false [⟨(some 8), .faddr 0 1 false (.tmp 3), none, false⟩,
            ⟨(some 9), .load 1 false (.tmp 8), none, false⟩,
            ⟨(some 10), .bin .eql 3 (.tmp 9) (.const (.int .i64 (-1))), none, false⟩])
        (.cond (.tmp 10)
          (.seq (.region false [⟨(some 11), .load 9 true (.tmp 2), none, false⟩,
                ⟨(some 12), .faddr 1 1 false (.tmp 3), none, false⟩,
                ⟨(some 13), .load 1 false (.tmp 12), none, false⟩,
                ⟨(some 14), .call (.func 19) [(.tmp 11), (.const (.int .i64 2)), (.tmp 13)], none, false⟩,
                ⟨(some 4), .move (.tmp 14), none, false⟩])
            (.ret))
          (.skip)))
      (.seq (.seq (.region true (⟨(some 15), .faddr 0 1 false (.tmp 3), none, false⟩ :: ⟨(some 16), .load 1 false (.tmp 15), none, false⟩ :: ⟨(some 17), .bin .lss 3 (.tmp 16) (.const (.int .i64 0)), none, false⟩ :: ⟨(some 18), .move (.tmp 17), none, false⟩ :: (ac7_G1 ++ (⟨(some 26), .move (.tmp 25), none, false⟩ :: (ac7_G2 ++ (⟨(some 31), .move (.tmp 30), none, false⟩ :: (ac7_G3 ++ [])))))))
          (.cond (.tmp 43)
            (.seq (.region false [⟨(some 4), .move (.const (.int .i64 (-1))), none, false⟩])
              (.ret))
            (.skip)))
        (.seq (.region false [⟨(some 44), .faddr 1 1 false (.tmp 3), none, false⟩,
              ⟨(some 45), .load 1 false (.tmp 44), none, false⟩,
              ⟨(some 5), .move (.tmp 45), none, false⟩])
          (.seq (.seq (.region false [⟨(some 46), .faddr 1 1 false (.tmp 2), none, false⟩,
                  ⟨(some 47), .load 1 false (.tmp 46), none, false⟩,
                  ⟨(some 48), .faddr 0 1 false (.tmp 3), none, false⟩,
                  ⟨(some 49), .load 1 false (.tmp 48), none, false⟩,
                  ⟨(some 50), .slice 22 2 (.tmp 47) none (some (.tmp 49)) none, none, false⟩,
                  ⟨(some 51), .bi .len [22].toArray 3 [(.tmp 50)], none, false⟩,
                  ⟨(some 52), .move (.const (.int .i64 0)), none, false⟩])
              (.block 0 (.loop ac7_L1)))
            (.seq (.region false [⟨(some 62), .move (.tmp 5), none, false⟩,
                  ⟨(some 4), .move (.tmp 62), none, false⟩])
              (.ret))))))
theorem text7 : FnText Try.prog 7 [7] 63 2 ac7 [(4, none)] :=
  ⟨Try.call7, follows, Try.f7, _, Try.func7, rfl, rfl, by decide, by kernel_rfl, by kernel_rfl⟩


/-- patchbay/access.RegisterCell -/
def ac8 : AC :=
  .seq (.region false [⟨(some 2), .box false 31 (.tmp 0), none, false⟩,
        ⟨(some 4), .move (.const (.int .i64 0)), none, false⟩])
    (.seq (.region false [⟨(some 5), .load 9 true (.tmp 2), none, false⟩,
          ⟨(some 6), .move (.tmp 1), none, false⟩,
          ⟨(some 7), .call (.func 19) [(.tmp 5), (.const (.int .i64 3)), (.tmp 6)], none, false⟩,
          ⟨(some 4), .move (.tmp 7), none, false⟩])
      (.ret))
theorem text8 : FnText Try.prog 8 [] 8 2 ac8 [(4, none)] :=
  ⟨Try.call8, follows, Try.f8, _, Try.func8, rfl, rfl, by decide, by kernel_rfl, by kernel_rfl⟩


/-- patchbay/access.Cells -/
def ac9 : AC :=
  .seq (.region false [⟨(some 1), .box false 31 (.tmp 0), none, false⟩,
        ⟨(some 2), .move (.const (.int .i64 0)), none, false⟩])
    (.seq (.region false [⟨(some 3), .load 9 true (.tmp 1), none, false⟩,
          ⟨(some 4), .call (.func 20) [(.tmp 3), (.const (.int .i64 4))], none, false⟩,
          ⟨(some 2), .move (.tmp 4), none, false⟩])
      (.ret))
theorem text9 : FnText Try.prog 9 [] 5 1 ac9 [(2, none)] :=
  ⟨Try.call9, follows, Try.f9, _, Try.func9, rfl, rfl, by decide, by kernel_rfl, by kernel_rfl⟩

def ac3_L2 : AC :=
  .seq (.seq (.region false [⟨(some 27), .move (.tmp 5), none, false⟩,
          ⟨(some 28), .faddr 1 1 false (.tmp 1), none, false⟩,
          ⟨(some 29), .load 1 false (.tmp 28), none, false⟩,
          ⟨(some 30), .move (.tmp 4), none, false⟩,
          ⟨(some 31), .iaddr 2 (.tmp 29) (.tmp 30), none, false⟩,
          ⟨(some 32), .faddr 1 1 false (.tmp 31), none, false⟩,
          ⟨(some 33), .load 1 false (.tmp 32), none, false⟩,
          ⟨(some 34), .bi .len [23].toArray 3 [(.tmp 33)], none, false⟩,
          ⟨(some 35), .bin .lss 3 (.tmp 27) (.tmp 34), none, false⟩])
      (.cond (.tmp 35)
        (.skip)
        (.exit 2)))
    (.seq (.block 3 (.region false [⟨(some 38), .move (.tmp 3), none, false⟩,
            ⟨(some 39), .load 9 true (.tmp 1), none, false⟩,
            ⟨(some 40), .move (.tmp 4), none, false⟩,
            ⟨(some 41), .move (.tmp 5), none, false⟩,
            ⟨(some 42), .build [(.int .i64 0), (.int .i64 0)] [(0, 1, (.tmp 40)), (1, 1, (.tmp 41))], none, false⟩,
            ⟨(some 43), .call (.func 7) [(.tmp 39), (.tmp 42)], none, false⟩,
            ⟨(some 44), .bslice false 3 1 false [(.tmp 43)], none, false⟩,
            ⟨(some 45), .append 29 3 1 8 (.tmp 38) (.tmp 44), none, false⟩,
            ⟨(some 3), .move (.tmp 45), none, false⟩]))
      (.region false [⟨(some 36), .move (.tmp 5), none, false⟩,
          ⟨(some 37), .bin .add 3 (.tmp 36) (.const (.int .i64 1)), none, false⟩,
          ⟨(some 5), .move (.tmp 37), none, false⟩]))
def ac3_L1 : AC :=
  .seq (.seq (.region false [⟨(some 14), .move (.tmp 4), none, false⟩,
          ⟨(some 15), .faddr 1 1 false (.tmp 1), none, false⟩,
          ⟨(some 16), .load 1 false (.tmp 15), none, false⟩,
          ⟨(some 17), .bi .len [22].toArray 3 [(.tmp 16)], none, false⟩,
          ⟨(some 18), .bin .lss 3 (.tmp 14) (.tmp 17), none, false⟩])
      (.cond (.tmp 18)
        (.skip)
        (.exit 0)))
    (.seq (.block 1 (.seq (.region false [⟨(some 21), .move (.tmp 3), none, false⟩,
              ⟨(some 22), .load 9 true (.tmp 1), none, false⟩,
              ⟨(some 23), .move (.tmp 4), none, false⟩,
              ⟨(some 24), .call (.func 6) [(.tmp 22), (.tmp 23)], none, false⟩,
              ⟨(some 25), .bslice false 3 1 false [(.tmp 24)], none, false⟩,
              ⟨(some 26), .append 29 3 1 8 (.tmp 21) (.tmp 25), none, false⟩,
              ⟨(some 3), .move (.tmp 26), none, false⟩])
          (.seq (.region false [⟨(some 5), .move (.const (.int .i64 0)), none, false⟩])
            (.block 2 (.loop ac3_L2)))))
      (.region false [⟨(some 19), .move (.tmp 4), none, false⟩,
          ⟨(some 20), .bin .add 3 (.tmp 19) (.const (.int .i64 1)), none, false⟩,
          ⟨(some 4), .move (.tmp 20), none, false⟩]))
def ac3_L3 : AC :=
  .seq (.seq (.region false [⟨(some 46), .move (.tmp 6), none, false⟩,
          ⟨(some 47), .faddr 2 1 false (.tmp 1), none, false⟩,
          ⟨(some 48), .load 1 false (.tmp 47), none, false⟩,
          ⟨(some 49), .bi .len [23].toArray 3 [(.tmp 48)], none, false⟩,
          ⟨(some 50), .bin .lss 3 (.tmp 46) (.tmp 49), none, false⟩])
      (.cond (.tmp 50)
        (.skip)
        (.exit 4)))
    (.seq (.block 5 (.region false [⟨(some 53), .move (.tmp 3), none, false⟩,
            ⟨(some 54), .load 9 true (.tmp 1), none, false⟩,
            ⟨(some 55), .move (.tmp 6), none, false⟩,
            ⟨(some 56), .build [(.int .i64 0), (.int .i64 0)] [(0, 1, (.const (.int .i64 (-1)))), (1, 1, (.tmp 55))], none, false⟩,
            ⟨(some 57), .call (.func 7) [(.tmp 54), (.tmp 56)], none, false⟩,
            ⟨(some 58), .bslice false 3 1 false [(.tmp 57)], none, false⟩,
            ⟨(some 59), .append 29 3 1 8 (.tmp 53) (.tmp 58), none, false⟩,
            ⟨(some 3), .move (.tmp 59), none, false⟩]))
      (.region false [⟨(some 51), .move (.tmp 6), none, false⟩,
          ⟨(some 52), .bin .add 3 (.tmp 51) (.const (.int .i64 1)), none, false⟩,
          ⟨(some 6), .move (.tmp 52), none, false⟩]))
def ac3_L4 : AC :=
  .seq (.seq (.region false [⟨(some 60), .move (.tmp 7), none, false⟩,
          ⟨(some 61), .faddr 3 1 false (.tmp 1), none, false⟩,
          ⟨(some 62), .load 1 false (.tmp 61), none, false⟩,
          ⟨(some 63), .bi .len [24].toArray 3 [(.tmp 62)], none, false⟩,
          ⟨(some 64), .bin .lss 3 (.tmp 60) (.tmp 63), none, false⟩])
      (.cond (.tmp 64)
        (.skip)
        (.exit 6)))
    (.seq (.block 7 (.region false [⟨(some 67), .move (.tmp 3), none, false⟩,
            ⟨(some 68), .load 9 true (.tmp 1), none, false⟩,
            ⟨(some 69), .move (.tmp 7), none, false⟩,
            ⟨(some 70), .call (.func 8) [(.tmp 68), (.tmp 69)], none, false⟩,
            ⟨(some 71), .bslice false 3 1 false [(.tmp 70)], none, false⟩,
            ⟨(some 72), .append 29 3 1 8 (.tmp 67) (.tmp 71), none, false⟩,
            ⟨(some 3), .move (.tmp 72), none, false⟩]))
      (.region false [⟨(some 65), .move (.tmp 7), none, false⟩,
          ⟨(some 66), .bin .add 3 (.tmp 65) (.const (.int .i64 1)), none, false⟩,
          ⟨(some 7), .move (.tmp 66), none, false⟩]))
def ac3_G1 : List AOper :=
  [⟨(some 92), .move (.tmp 3), (some (91, false)), false⟩,
    ⟨(some 93), .move (.tmp 10), (some (91, false)), false⟩,
    ⟨(some 94), .iaddr 1 (.tmp 92) (.tmp 93), (some (91, false)), false⟩,
    ⟨(some 95), .load 1 false (.tmp 94), (some (91, false)), false⟩,
    ⟨(some 96), .move (.tmp 8), (some (91, false)), false⟩,
    ⟨(some 97), .bin .geq 3 (.tmp 95) (.tmp 96), (some (91, false)), false⟩,
    ⟨(some 98), .pick (.tmp 91) (.const (.bool true)) (.tmp 97), none, false⟩]
def ac3_G2 : List AOper :=
  [⟨(some 100), .move (.tmp 9), (some (99, false)), false⟩,
    ⟨(some 101), .move (.tmp 3), (some (99, false)), false⟩,
    ⟨(some 102), .move (.tmp 10), (some (99, false)), false⟩,
    ⟨(some 103), .iaddr 1 (.tmp 101) (.tmp 102), (some (99, false)), false⟩,
    ⟨(some 104), .load 1 false (.tmp 103), (some (99, false)), false⟩,
    ⟨(some 105), .iaddr 1 (.tmp 100) (.tmp 104), (some (99, false)), false⟩,
    ⟨(some 106), .load 1 false (.tmp 105), (some (99, false)), false⟩,
    ⟨(some 107), .pick (.tmp 99) (.const (.bool true)) (.tmp 106), none, false⟩]
def ac3_L5 : AC :=
  .seq (.seq (.region false [⟨(some 81), .move (.tmp 10), none, false⟩,
          ⟨(some 82), .move (.tmp 8), none, false⟩,
          ⟨(some 83), .bin .lss 3 (.tmp 81) (.tmp 82), none, false⟩])
      (.cond (.tmp 83)
        (.skip)
        (.exit 8)))
    (.seq (.block 9 (.seq (.seq (.region false (⟨(some 86), .move (.tmp 3), none, false⟩ :: ⟨(some 87), .move (.tmp 10), none, false⟩ :: ⟨(some 88), .iaddr 1 (.tmp 86) (.tmp 87), none, false⟩ :: ⟨(some 89), .load 1 false (.tmp 88), none, false⟩ :: ⟨(some 90), .bin .lss 3 (.tmp 89) (.const (.int .i64 0)), none, false⟩ :: ⟨(some 91), .move (.tmp 90), none, false⟩ :: (ac3_G1 ++ (⟨(some 99), .move (.tmp 98), none, false⟩ :: (ac3_G2 ++ [])))))
            (.cond (.tmp 107)
              (.seq (.region false [⟨(some 2), .move (.const (.bool false)), none, false⟩])
                (.ret))
              (.skip)))
          (.region false [⟨(some 108), .move (.tmp 9), none, false⟩,
              ⟨(some 109), .move (.tmp 3), none, false⟩,
              ⟨(some 110), .move (.tmp 10), none, false⟩,
              ⟨(some 111), .iaddr 1 (.tmp 109) (.tmp 110), none, false⟩,
              ⟨(some 112), .load 1 false (.tmp 111), none, false⟩,
              ⟨(some 113), .iaddr 1 (.tmp 108) (.tmp 112), none, false⟩,
              ⟨none, .store 1 (.tmp 113) (.const (.bool true)), none, false⟩])))
      (.region false [⟨(some 84), .move (.tmp 10), none, false⟩,
          ⟨(some 85), .bin .add 3 (.tmp 84) (.const (.int .i64 1)), none, false⟩,
          ⟨(some 10), .move (.tmp 85), none, false⟩]))
/-- patchbay/patchbaylaw31.AccessDistinct -/
def ac3 : AC :=
  .seq (.region false [⟨(some 1), .box false 31 (.tmp 0), none, false⟩,
        ⟨(some 2), .move (.const (.bool false)), none, false⟩])
    (.seq (.seq (.region false [⟨(some 11), .load 9 true (.tmp 1), none, false⟩,
            ⟨(some 12), .call (.func 4) [(.tmp 11)], none, false⟩])
        (.cond (.tmp 12)
          (.seq (.region false [⟨(some 13), .call (.func 5) [], none, false⟩,
                ⟨(some 2), .move (.tmp 13), none, false⟩])
            (.ret))
          (.skip)))
      (.seq (.region false [⟨(some 3), .move (.const (.slice none 0 0)), none, false⟩])
        (.seq (.seq (.region false [⟨(some 4), .move (.const (.int .i64 0)), none, false⟩])
            (.block 0 (.loop ac3_L1)))
          (.seq (.seq (.region false [⟨(some 6), .move (.const (.int .i64 0)), none, false⟩])
              (.block 4 (.loop ac3_L3)))
            (.seq (.seq (.region false [⟨(some 7), .move (.const (.int .i64 0)), none, false⟩])
                (.block 6 (.loop ac3_L4)))
              (.seq (.region false [⟨(some 73), .load 9 true (.tmp 1), none, false⟩,
                    ⟨(some 74), .call (.func 9) [(.tmp 73)], none, false⟩,
                    ⟨(some 8), .move (.tmp 74), none, false⟩])
                (.seq (.seq (.region false [⟨(some 75), .move (.tmp 3), none, false⟩,
                        ⟨(some 76), .bi .len [29].toArray 3 [(.tmp 75)], none, false⟩,
                        ⟨(some 77), .move (.tmp 8), none, false⟩,
                        ⟨(some 78), .bin .neq 3 (.tmp 76) (.tmp 77), none, false⟩])
                    (.cond (.tmp 78)
                      (.seq (.region false [⟨(some 2), .move (.const (.bool false)), none, false⟩])
                        (.ret))
                      (.skip)))
                  (.seq (.region false [⟨(some 79), .move (.tmp 8), none, false⟩,
                        ⟨(some 80), .mkSlice 4 1 1 (.bool false) (.tmp 79) (.tmp 79), none, false⟩,
                        ⟨(some 9), .move (.tmp 80), none, false⟩])
                    (.seq (.seq (.region false [⟨(some 10), .move (.const (.int .i64 0)), none, false⟩])
                        (.block 8 (.loop ac3_L5)))
                      (.seq (.region false [⟨(some 114), .call (.func 5) [], none, false⟩,
                            ⟨(some 2), .move (.tmp 114), none, false⟩])
                        (.ret)))))))))))
theorem text3 : FnText Try.prog 3 [] 115 1 ac3 [(2, none)] :=
  ⟨Try.call3, follows, Try.f3, _, Try.func3, rfl, rfl, by decide, by kernel_rfl, by kernel_rfl⟩


/-- patchbay/patchbaylaw31.example -/
def ac14 : AC :=
  .seq (.region false [⟨(some 0), .alloc true 31 (.agg [(.string ⟨[].toArray⟩), (.slice none 0 0), (.slice none 0 0), (.slice none 0 0), (.slice none 0 0), (.slice none 0 0), (.slice none 0 0), (.slice none 0 0), (.slice none 0 0)].toArray), none, false⟩])
    (.seq (.region false [⟨(some 4), .call (.func 21) [], none, false⟩,
          ⟨(some 1), .alloc true 31 (.agg [(.string ⟨[].toArray⟩), (.slice none 0 0), (.slice none 0 0), (.slice none 0 0), (.slice none 0 0), (.slice none 0 0), (.slice none 0 0), (.slice none 0 0), (.slice none 0 0)].toArray), none, false⟩,
          ⟨none, .store 9 (.tmp 1) (.tmp 4), none, false⟩])
      (.seq (.region false [⟨(some 5), .build [(.string ⟨[].toArray⟩), (.int .i64 0)] [(0, 1, (.const (.string ⟨[97].toArray⟩))), (1, 1, (.const (.int .i64 8)))], none, false⟩,
            ⟨(some 2), .alloc true 71 (.agg [(.string ⟨[].toArray⟩), (.int .i64 0)].toArray), none, false⟩,
            ⟨none, .store 2 (.tmp 2) (.tmp 5), none, false⟩])
        (.seq (.region false [⟨(some 6), .load 2 true (.tmp 2), none, false⟩,
              ⟨(some 7), .bslice false 71 2 false [(.tmp 6)], none, false⟩,
              ⟨(some 8), .build [(.string ⟨[].toArray⟩), (.slice none 0 0)] [(0, 1, (.const (.string ⟨[103].toArray⟩))), (1, 1, (.tmp 7))], none, false⟩,
              ⟨(some 9), .load 2 true (.tmp 2), none, false⟩,
              ⟨(some 10), .build [(.string ⟨[].toArray⟩), (.int .i64 0)] [(0, 1, (.const (.string ⟨[98].toArray⟩))), (1, 1, (.const (.int .i64 4)))], none, false⟩,
              ⟨(some 11), .bslice false 71 2 false [(.tmp 9), (.tmp 10)], none, false⟩,
              ⟨(some 12), .build [(.string ⟨[].toArray⟩), (.slice none 0 0)] [(0, 1, (.const (.string ⟨[104].toArray⟩))), (1, 1, (.tmp 11))], none, false⟩,
              ⟨(some 13), .bslice false 36 2 false [(.tmp 8), (.tmp 12)], none, false⟩,
              ⟨(some 14), .faddr 1 1 false (.tmp 1), none, false⟩,
              ⟨none, .store 1 (.tmp 14) (.tmp 13), none, false⟩])
          (.seq (.region false [⟨(some 15), .build [(.string ⟨[].toArray⟩), (.int .i64 0), (.int .i64 0)] [(0, 1, (.const (.string ⟨[114].toArray⟩))), (1, 1, (.const (.int .i64 8))), (2, 1, (.const (.int .i64 1)))], none, false⟩,
                ⟨(some 16), .bslice false 75 3 false [(.tmp 15)], none, false⟩,
                ⟨(some 17), .faddr 3 1 false (.tmp 1), none, false⟩,
                ⟨none, .store 1 (.tmp 17) (.tmp 16), none, false⟩])
            (.seq (.region false [⟨(some 18), .build [(.int .i64 0), (.int .i64 0)] [(0, 1, (.const (.int .i64 1))), (1, 1, (.const (.int .i64 1)))], none, false⟩,
                  ⟨(some 19), .build [(.int .i64 0), (.int .i64 0), (.int .i64 0)] [(0, 1, (.const (.int .i64 1))), (1, 1, (.const (.int .i64 3))), (2, 1, (.const (.int .i64 4)))], none, false⟩,
                  ⟨(some 20), .bslice false 60 3 false [(.tmp 19)], none, false⟩,
                  ⟨(some 21), .build [(.int .i64 0), (.int .i64 0), (.int .i64 0), (.int .i64 0), (.int .i64 0), (.slice none 0 0), (.slice none 0 0)] [(0, 1, (.const (.int .i64 1))), (1, 2, (.tmp 18)), (6, 1, (.tmp 20))], none, false⟩,
                  ⟨(some 3), .alloc true 73 (.agg [(.int .i64 0), (.int .i64 0), (.int .i64 0), (.int .i64 0), (.int .i64 0), (.slice none 0 0), (.slice none 0 0)].toArray), none, false⟩,
                  ⟨none, .store 7 (.tmp 3) (.tmp 21), none, false⟩])
              (.seq (.region false [⟨(some 22), .load 7 true (.tmp 3), none, false⟩,
                    ⟨(some 23), .bslice false 73 7 false [(.tmp 22)], none, false⟩,
                    ⟨(some 24), .build [(.string ⟨[].toArray⟩), (.slice none 0 0), (.slice none 0 0)] [(0, 1, (.const (.string ⟨[120].toArray⟩))), (2, 1, (.tmp 23))], none, false⟩,
                    ⟨(some 25), .bslice false 47 3 false [(.tmp 24)], none, false⟩,
                    ⟨(some 26), .faddr 4 1 false (.tmp 1), none, false⟩,
                    ⟨none, .store 1 (.tmp 26) (.tmp 25), none, false⟩])
                (.seq (.region false [⟨(some 27), .build [(.int .i64 0), (.int .i64 0)] [(0, 1, (.const (.int .i64 (-1))))], none, false⟩,
                      ⟨(some 28), .build [(.int .i64 0), (.int .i64 0), (.int .i64 0)] [(0, 2, (.tmp 27)), (2, 1, (.const (.int .i64 1)))], none, false⟩,
                      ⟨(some 29), .bslice false 77 3 false [(.tmp 28)], none, false⟩,
                      ⟨(some 30), .bslice false 3 1 false [(.const (.int .i64 0))], none, false⟩,
                      ⟨(some 31), .build [(.string ⟨[].toArray⟩), (.slice none 0 0), (.slice none 0 0), (.int .i64 0), (.slice none 0 0), (.int .i64 0)] [(0, 1, (.const (.string ⟨[116].toArray⟩))), (1, 1, (.tmp 29)), (2, 1, (.tmp 30)), (5, 1, (.const (.int .i64 1)))], none, false⟩,
                      ⟨(some 32), .bslice false 53 6 false [(.tmp 31)], none, false⟩,
                      ⟨(some 33), .faddr 5 1 false (.tmp 1), none, false⟩,
                      ⟨none, .store 1 (.tmp 33) (.tmp 32), none, false⟩])
                  (.seq (.region false [⟨(some 34), .load 9 true (.tmp 1), none, false⟩,
                        ⟨none, .store 9 (.tmp 0) (.tmp 34), none, false⟩])
                    (.ret)))))))))
theorem text14 : FnText Try.prog 14 [0, 1, 2, 3] 35 0 ac14 [(0, some (9, true))] :=
  ⟨Try.call14, follows, Try.f14, _, Try.func14, rfl, rfl, by decide, by kernel_rfl, by kernel_rfl⟩


/-- patchbay/patchbaylaw21.Plain -/
def ac21 : AC :=
  .seq (.region false [⟨(some 0), .alloc true 31 (.agg [(.string ⟨[].toArray⟩), (.slice none 0 0), (.slice none 0 0), (.slice none 0 0), (.slice none 0 0), (.slice none 0 0), (.slice none 0 0), (.slice none 0 0), (.slice none 0 0)].toArray), none, false⟩])
    (.seq (.region false [⟨(some 1), .build [(.string ⟨[].toArray⟩), (.int .i64 0)] [(0, 1, (.const (.string ⟨[105, 110].toArray⟩))), (1, 1, (.const (.int .i64 8)))], none, false⟩,
          ⟨(some 2), .build [(.string ⟨[].toArray⟩), (.int .i64 0)] [(0, 1, (.const (.string ⟨[111, 117, 116].toArray⟩))), (1, 1, (.const (.int .i64 8)))], none, false⟩,
          ⟨(some 3), .build [(.string ⟨[].toArray⟩), (.int .i64 0)] [(0, 1, (.const (.string ⟨[100, 114, 111, 112].toArray⟩))), (1, 1, (.const (.int .i64 1)))], none, false⟩,
          ⟨(some 4), .bslice false 71 2 false [(.tmp 1), (.tmp 2), (.tmp 3)], none, false⟩,
          ⟨(some 5), .build [(.string ⟨[].toArray⟩), (.slice none 0 0), (.bool false), (.int .i64 0), (.int .i64 0), (.slice none 0 0), (.int .i64 0)] [(0, 1, (.const (.string ⟨[115].toArray⟩))), (6, 1, (.const (.int .i64 (-1))))], none, false⟩,
          ⟨(some 6), .bslice false 57 7 false [(.tmp 5)], none, false⟩,
          ⟨(some 7), .build [(.string ⟨[].toArray⟩), (.slice none 0 0), (.slice none 0 0), (.slice none 0 0), (.slice none 0 0), (.slice none 0 0), (.slice none 0 0), (.slice none 0 0), (.slice none 0 0)] [(0, 1, (.const (.string ⟨[112].toArray⟩))), (2, 1, (.tmp 4)), (6, 1, (.tmp 6))], none, false⟩,
          ⟨none, .store 9 (.tmp 0) (.tmp 7), none, false⟩])
      (.ret))
theorem text21 : FnText Try.prog 21 [0] 8 0 ac21 [(0, some (9, true))] :=
  ⟨Try.call21, follows, Try.f21, _, Try.func21, rfl, rfl, by decide, by kernel_rfl, by kernel_rfl⟩

def ac15_G1 : List AOper :=
  [⟨(some 10), .move (.tmp 1), (some (9, false)), false⟩,
    ⟨(some 11), .load 9 true (.tmp 2), (some (9, false)), false⟩,
    ⟨(some 12), .call (.func 20) [(.tmp 11), (.const (.int .i64 3))], (some (9, false)), false⟩,
    ⟨(some 13), .bin .geq 3 (.tmp 10) (.tmp 12), (some (9, false)), false⟩,
    ⟨(some 14), .pick (.tmp 9) (.const (.bool true)) (.tmp 13), none, false⟩]
def ac15_L1 : AC :=
  .seq (.region false [⟨(some 34), .bin .lss 3 (.tmp 33) (.tmp 32), none, false⟩])
    (.seq (.cond (.tmp 34)
        (.skip)
        (.exit 0))
      (.seq (.block 1 (.seq (.region false [⟨(some 35), .move (.tmp 33), none, false⟩,
                ⟨(some 36), .iaddr 2 (.tmp 31) (.tmp 33), none, false⟩,
                ⟨(some 37), .load 2 true (.tmp 36), none, false⟩,
                ⟨(some 6), .alloc true 36 (.agg [(.string ⟨[].toArray⟩), (.slice none 0 0)].toArray), none, false⟩,
                ⟨(some 5), .move (.tmp 35), none, false⟩,
                ⟨none, .store 2 (.tmp 6) (.tmp 37), none, false⟩])
            (.seq (.seq (.region false [⟨(some 38), .move (.tmp 1), none, false⟩,
                    ⟨(some 39), .faddr 1 1 false (.tmp 6), none, false⟩,
                    ⟨(some 40), .load 1 false (.tmp 39), none, false⟩,
                    ⟨(some 41), .bi .len [23].toArray 3 [(.tmp 40)], none, false⟩,
                    ⟨(some 42), .bin .lss 3 (.tmp 38) (.tmp 41), none, false⟩])
                (.cond (.tmp 42)
                  (.seq (.region false [⟨(some 43), .load 9 true (.tmp 2), none, false⟩,
                        ⟨(some 44), .move (.tmp 5), none, false⟩,
                        ⟨(some 45), .move (.tmp 1), none, false⟩,
                        ⟨(some 46), .build [(.int .i64 0), (.int .i64 0)] [(0, 1, (.tmp 44)), (1, 1, (.tmp 45))], none, false⟩,
                        ⟨(some 47), .call (.func 22) [(.tmp 43), (.tmp 46)], none, false⟩,
                        ⟨(some 4), .move (.tmp 47), none, false⟩])
                    (.ret))
                  (.skip)))
              (.region false [⟨(some 48), .move (.tmp 1), none, false⟩,
                  ⟨(some 49), .faddr 1 1 false (.tmp 6), none, false⟩,
                  ⟨(some 50), .load 1 false (.tmp 49), none, false⟩,
                  ⟨(some 51), .bi .len [23].toArray 3 [(.tmp 50)], none, false⟩,
                  ⟨(some 52), .bin .sub 3 (.tmp 48) (.tmp 51), none, false⟩,
                  ⟨(some 1), .move (.tmp 52), none, false⟩]))))
        (.region false [⟨(some 53), .bin .add 3 (.tmp 33) (.const (.int .i64 1)), none, false⟩,
            ⟨(some 33), .move (.tmp 53), none, false⟩])))
/-- patchbay/access.CellWidth -/
def ac15 : AC :=
  .seq (.region false [⟨(some 2), .box false 31 (.tmp 0), none, false⟩,
        ⟨(some 4), .move (.const (.int .i64 0)), none, false⟩])
    (.seq (.seq (.region false (⟨(some 7), .move (.tmp 1), none, false⟩ :: ⟨(some 8), .bin .lss 3 (.tmp 7) (.const (.int .i64 0)), none, false⟩ :: ⟨(some 9), .move (.tmp 8), none, false⟩ :: (ac15_G1 ++ [])))
        (.cond (.tmp 14)
          (.seq (.region false [⟨(some 4), .move (.const (.int .i64 0)), none, false⟩])
            (.ret))
          (.skip)))
      (.seq (.seq (.region false [⟨(some 15), .move (.tmp 1), none, false⟩,
              ⟨(some 16), .load 9 true (.tmp 2), none, false⟩,
              ⟨(some 17), .call (.func 20) [(.tmp 16), (.const (.int .i64 2))], none, false⟩,
              ⟨(some 18), .bin .geq 3 (.tmp 15) (.tmp 17), none, false⟩])
          (.cond (.tmp 18)
            (.seq (.region true [⟨(some 19), .load 9 true (.tmp 2), none, false⟩,
                  ⟨(some 20), .move (.tmp 1), none, false⟩,
                  ⟨(some 21), .load 9 true (.tmp 2), none, false⟩,
                  ⟨(some 22), .call (.func 20) [(.tmp 21), (.const (.int .i64 2))], none, false⟩,
                  ⟨(some 23), .bin .sub 3 (.tmp 20) (.tmp 22), none, false⟩,
                  ⟨(some 24), .build [(.int .i64 0), (.int .i64 0)] [(0, 1, (.const (.int .i64 (-1)))), (1, 1, (.tmp 23))], none, false⟩,
                  ⟨(some 25), .call (.func 22) [(.tmp 19), (.tmp 24)], none, false⟩,
                  ⟨(some 4), .move (.tmp 25), none, false⟩])
              (.ret))
            (.skip)))
        (.seq (.seq (.region false [⟨(some 26), .move (.tmp 1), none, false⟩,
                ⟨(some 27), .load 9 true (.tmp 2), none, false⟩,
                ⟨(some 28), .call (.func 20) [(.tmp 27), (.const (.int .i64 1))], none, false⟩,
                ⟨(some 29), .bin .geq 3 (.tmp 26) (.tmp 28), none, false⟩])
            (.cond (.tmp 29)
              (.seq (.region false [⟨(some 4), .move (.const (.int .i64 1)), none, false⟩])
                (.ret))
              (.skip)))
          (.seq (.seq (.region false [⟨(some 30), .faddr 1 1 false (.tmp 2), none, false⟩,
                  ⟨(some 31), .load 1 false (.tmp 30), none, false⟩,
                  ⟨(some 32), .bi .len [22].toArray 3 [(.tmp 31)], none, false⟩,
                  ⟨(some 33), .move (.const (.int .i64 0)), none, false⟩])
              (.block 0 (.loop ac15_L1)))
            (.seq (.region false [⟨(some 4), .move (.const (.int .i64 0)), none, false⟩])
              (.ret))))))
theorem text15 : FnText Try.prog 15 [6] 54 2 ac15 [(4, none)] :=
  ⟨Try.call15, follows, Try.f15, _, Try.func15, rfl, rfl, by decide, by kernel_rfl, by kernel_rfl⟩


/-- patchbay/env.Width -/
def ac22 : AC :=
  .seq (.region false [⟨(some 2), .box false 31 (.tmp 0), none, false⟩,
        ⟨(some 3), .box false 39 (.tmp 1), none, false⟩,
        ⟨(some 4), .move (.const (.int .i64 0)), none, false⟩])
    (.seq (.region true [⟨(some 6), .load 9 true (.tmp 2), none, false⟩,
          ⟨(some 7), .faddr 0 1 false (.tmp 3), none, false⟩,
          ⟨(some 8), .load 1 false (.tmp 7), none, false⟩,
          ⟨(some 9), .call (.func 32) [(.tmp 6), (.tmp 8)], none, false⟩,
          ⟨(some 10), .faddr 1 1 false (.tmp 3), none, false⟩,
          ⟨(some 11), .load 1 false (.tmp 10), none, false⟩,
          ⟨(some 12), .call (.func 31) [(.tmp 9), (.tmp 11)], none, false⟩,
          ⟨(some 13), .field 1 1 false (.tmp 12), none, false⟩,
          ⟨(some 5), .move (.tmp 13), none, false⟩])
      (.seq (.seq (.region false [⟨(some 14), .move (.tmp 5), none, false⟩,
              ⟨(some 15), .call (.func 33) [(.tmp 14)], none, false⟩,
              ⟨(some 16), .bin .eql 94 (.tmp 15) (.const (.int .u32 0)), none, false⟩])
          (.cond (.tmp 16)
            (.seq (.region false [⟨(some 4), .move (.const (.int .i64 0)), none, false⟩])
              (.ret))
            (.skip)))
        (.seq (.region false [⟨(some 17), .move (.tmp 5), none, false⟩,
              ⟨(some 4), .move (.tmp 17), none, false⟩])
          (.ret))))
theorem text22 : FnText Try.prog 22 [] 18 2 ac22 [(4, none)] :=
  ⟨Try.call22, follows, Try.f22, _, Try.func22, rfl, rfl, by decide, by kernel_rfl, by kernel_rfl⟩


/-- patchbay/env.fields -/
def ac32 : AC :=
  .seq (.region false [⟨(some 2), .box false 31 (.tmp 0), none, false⟩,
        ⟨(some 4), .move (.const (.slice none 0 0)), none, false⟩])
    (.seq (.seq (.region false [⟨(some 5), .move (.tmp 1), none, false⟩,
            ⟨(some 6), .bin .eql 3 (.tmp 5) (.const (.int .i64 (-1))), none, false⟩])
        (.cond (.tmp 6)
          (.seq (.region false [⟨(some 7), .faddr 2 1 false (.tmp 2), none, false⟩,
                ⟨(some 8), .load 1 false (.tmp 7), none, false⟩,
                ⟨(some 4), .move (.tmp 8), none, false⟩])
            (.ret))
          (.skip)))
      (.seq (.region false [⟨(some 9), .faddr 1 1 false (.tmp 2), none, false⟩,
            ⟨(some 10), .load 1 false (.tmp 9), none, false⟩,
            ⟨(some 11), .move (.tmp 1), none, false⟩,
            ⟨(some 12), .call (.func 45) [(.tmp 10), (.tmp 11)], none, false⟩,
            ⟨(some 13), .field 1 1 false (.tmp 12), none, false⟩,
            ⟨(some 4), .move (.tmp 13), none, false⟩])
        (.ret)))
theorem text32 : FnText Try.prog 32 [] 14 2 ac32 [(4, none)] :=
  ⟨Try.call32, follows, Try.f32, _, Try.func32, rfl, rfl, by decide, by kernel_rfl, by kernel_rfl⟩

def ac45_G1 : List AOper :=
  [⟨(some 9), .move (.tmp 1), (some (8, false)), false⟩,
    ⟨(some 10), .move (.tmp 0), (some (8, false)), false⟩,
    ⟨(some 11), .bi .len [22].toArray 3 [(.tmp 10)], (some (8, false)), false⟩,
    ⟨(some 12), .bin .geq 3 (.tmp 9) (.tmp 11), (some (8, false)), false⟩,
    ⟨(some 13), .pick (.tmp 8) (.const (.bool true)) (.tmp 12), none, false⟩]
/-- patchbay/env.at[patchbay/api.Header] -/
def ac45 : AC :=
  .seq (.region false [⟨(some 4), .alloc true 36 (.agg [(.string ⟨[].toArray⟩), (.slice none 0 0)].toArray), none, false⟩])
    (.seq (.region false [⟨(some 5), .alloc false 36 (.agg [(.string ⟨[].toArray⟩), (.slice none 0 0)].toArray), none, false⟩])
      (.seq (.seq (.region false (⟨(some 6), .move (.tmp 1), none, false⟩ :: ⟨(some 7), .bin .lss 3 (.tmp 6) (.const (.int .i64 0)), none, false⟩ :: ⟨(some 8), .move (.tmp 7), none, false⟩ :: (ac45_G1 ++ [])))
          (.cond (.tmp 13)
            (.seq (.region false [⟨(some 14), .load 2 true (.tmp 5), none, false⟩,
                  ⟨none, .store 2 (.tmp 4) (.tmp 14), none, false⟩])
              (.ret))
            (.skip)))
        (.seq (.region false [⟨(some 15), .move (.tmp 0), none, false⟩,
              ⟨(some 16), .move (.tmp 1), none, false⟩,
              ⟨(some 17), .iaddr 2 (.tmp 15) (.tmp 16), none, false⟩,
              ⟨(some 18), .load 2 true (.tmp 17), none, false⟩,
              ⟨none, .store 2 (.tmp 4) (.tmp 18), none, false⟩])
          (.ret))))
theorem text45 : FnText Try.prog 45 [4] 19 2 ac45 [(4, some (2, true))] :=
  ⟨Try.call45, follows, Try.f45, _, Try.func45, rfl, rfl, by decide, by kernel_rfl, by kernel_rfl⟩

def ac31_G1 : List AOper :=
  [⟨(some 9), .move (.tmp 1), (some (8, false)), false⟩,
    ⟨(some 10), .move (.tmp 0), (some (8, false)), false⟩,
    ⟨(some 11), .bi .len [23].toArray 3 [(.tmp 10)], (some (8, false)), false⟩,
    ⟨(some 12), .bin .geq 3 (.tmp 9) (.tmp 11), (some (8, false)), false⟩,
    ⟨(some 13), .pick (.tmp 8) (.const (.bool true)) (.tmp 12), none, false⟩]
/-- patchbay/env.at[patchbay/api.Field] -/
def ac31 : AC :=
  .seq (.region false [⟨(some 4), .alloc true 71 (.agg [(.string ⟨[].toArray⟩), (.int .i64 0)].toArray), none, false⟩])
    (.seq (.region false [⟨(some 5), .alloc false 71 (.agg [(.string ⟨[].toArray⟩), (.int .i64 0)].toArray), none, false⟩])
      (.seq (.seq (.region false (⟨(some 6), .move (.tmp 1), none, false⟩ :: ⟨(some 7), .bin .lss 3 (.tmp 6) (.const (.int .i64 0)), none, false⟩ :: ⟨(some 8), .move (.tmp 7), none, false⟩ :: (ac31_G1 ++ [])))
          (.cond (.tmp 13)
            (.seq (.region false [⟨(some 14), .load 2 true (.tmp 5), none, false⟩,
                  ⟨none, .store 2 (.tmp 4) (.tmp 14), none, false⟩])
              (.ret))
            (.skip)))
        (.seq (.region false [⟨(some 15), .move (.tmp 0), none, false⟩,
              ⟨(some 16), .move (.tmp 1), none, false⟩,
              ⟨(some 17), .iaddr 2 (.tmp 15) (.tmp 16), none, false⟩,
              ⟨(some 18), .load 2 true (.tmp 17), none, false⟩,
              ⟨none, .store 2 (.tmp 4) (.tmp 18), none, false⟩])
          (.ret))))
theorem text31 : FnText Try.prog 31 [4] 19 2 ac31 [(4, some (2, true))] :=
  ⟨Try.call31, follows, Try.f31, _, Try.func31, rfl, rfl, by decide, by kernel_rfl, by kernel_rfl⟩


/-- patchbay/bitvec.Mask -/
def ac33 : AC :=
  .seq (.region false [⟨(some 2), .move (.const (.int .u32 0)), none, false⟩])
    (.seq (.seq (.region false [⟨(some 3), .move (.tmp 0), none, false⟩,
            ⟨(some 4), .bslice false 3 1 false [(.tmp 3)], none, false⟩,
            ⟨(some 5), .call (.func 46) [(.tmp 4)], none, false⟩,
            ⟨(some 6), .un .not (.tmp 5), none, false⟩])
        (.cond (.tmp 6)
          (.seq (.region false [⟨(some 2), .move (.const (.int .u32 0)), none, false⟩])
            (.ret))
          (.skip)))
      (.seq (.region false [⟨(some 7), .move (.tmp 0), none, false⟩,
            ⟨(some 8), .bin .sub 3 (.const (.int .i64 32)) (.tmp 7), none, false⟩,
            ⟨(some 9), .bin .shr 94 (.const (.int .u32 4294967295)) (.tmp 8), none, false⟩,
            ⟨(some 2), .move (.tmp 9), none, false⟩])
        (.ret)))
theorem text33 : FnText Try.prog 33 [] 10 1 ac33 [(2, none)] :=
  ⟨Try.call33, follows, Try.f33, _, Try.func33, rfl, rfl, by decide, by kernel_rfl, by kernel_rfl⟩

def ac46_G1 : List AOper :=
  [⟨(some 14), .move (.tmp 4), (some (13, false)), false⟩,
    ⟨(some 15), .bin .gtr 3 (.tmp 14) (.const (.int .i64 32)), (some (13, false)), false⟩,
    ⟨(some 16), .pick (.tmp 13) (.const (.bool true)) (.tmp 15), none, false⟩]
def ac46_L1 : AC :=
  .seq (.region false [⟨(some 8), .bin .lss 3 (.tmp 7) (.tmp 6), none, false⟩])
    (.seq (.cond (.tmp 8)
        (.skip)
        (.exit 0))
      (.seq (.block 1 (.seq (.region false [⟨(some 9), .iaddr 1 (.tmp 5) (.tmp 7), none, false⟩,
                ⟨(some 10), .load 1 false (.tmp 9), none, false⟩,
                ⟨(some 4), .move (.tmp 10), none, false⟩])
            (.seq (.region false (⟨(some 11), .move (.tmp 4), none, false⟩ :: ⟨(some 12), .bin .lss 3 (.tmp 11) (.const (.int .i64 1)), none, false⟩ :: ⟨(some 13), .move (.tmp 12), none, false⟩ :: (ac46_G1 ++ [])))
              (.cond (.tmp 16)
                (.seq (.region false [⟨(some 2), .move (.const (.bool false)), none, false⟩])
                  (.ret))
                (.skip)))))
        (.region false [⟨(some 17), .bin .add 3 (.tmp 7) (.const (.int .i64 1)), none, false⟩,
            ⟨(some 7), .move (.tmp 17), none, false⟩])))
/-- patchbay/bitvec.valid -/
def ac46 : AC :=
  .seq (.region false [⟨(some 2), .move (.const (.bool false)), none, false⟩])
    (.seq (.seq (.region false [⟨(some 5), .move (.tmp 0), none, false⟩,
            ⟨(some 6), .bi .len [29].toArray 3 [(.tmp 5)], none, false⟩,
            ⟨(some 7), .move (.const (.int .i64 0)), none, false⟩])
        (.block 0 (.loop ac46_L1)))
      (.seq (.region false [⟨(some 2), .move (.const (.bool true)), none, false⟩])
        (.ret)))
theorem text46 : FnText Try.prog 46 [] 18 1 ac46 [(2, none)] :=
  ⟨Try.call46, follows, Try.f46, _, Try.func46, rfl, rfl, by decide, by kernel_rfl, by kernel_rfl⟩

def ac17_L1 : AC :=
  .seq (.region false [⟨(some 40), .bin .lss 3 (.tmp 39) (.tmp 38), none, false⟩])
    (.seq (.cond (.tmp 40)
        (.skip)
        (.exit 0))
      (.seq (.block 1 (.seq (.region false [⟨(some 41), .iaddr 3 (.tmp 37) (.tmp 39), none, false⟩,
                ⟨(some 42), .load 3 true (.tmp 41), none, false⟩,
                ⟨(some 9), .alloc true 77 (.agg [(.int .i64 0), (.int .i64 0), (.int .i64 0)].toArray), none, false⟩,
                ⟨none, .store 3 (.tmp 9) (.tmp 42), none, false⟩])
            (.region false [⟨(some 43), .move (.tmp 5), none, false⟩,
                ⟨(some 44), .faddr 0 2 true (.tmp 9), none, false⟩,
                ⟨(some 45), .load 2 true (.tmp 44), none, false⟩,
                ⟨(some 46), .bslice false 39 2 false [(.tmp 45)], none, false⟩,
                ⟨(some 47), .call (.func 23) [(.tmp 43), (.tmp 46), (.const (.slice none 0 0)), (.const (.slice none 0 0))], none, false⟩])))
        (.region false [⟨(some 48), .bin .add 3 (.tmp 39) (.const (.int .i64 1)), none, false⟩,
            ⟨(some 39), .move (.tmp 48), none, false⟩])))
def ac17_L2 : AC :=
  .seq (.region false [⟨(some 53), .bin .lss 3 (.tmp 52) (.tmp 51), none, false⟩])
    (.seq (.cond (.tmp 53)
        (.skip)
        (.exit 2))
      (.seq (.block 3 (.seq (.region false [⟨(some 54), .iaddr 1 (.tmp 50) (.tmp 52), none, false⟩,
                ⟨(some 55), .load 1 false (.tmp 54), none, false⟩,
                ⟨(some 11), .move (.tmp 55), none, false⟩])
            (.region false [⟨(some 56), .move (.tmp 5), none, false⟩,
                ⟨(some 57), .load 9 true (.tmp 2), none, false⟩,
                ⟨(some 58), .move (.tmp 11), none, false⟩,
                ⟨(some 59), .call (.func 28) [(.tmp 57), (.tmp 58)], none, false⟩,
                ⟨(some 60), .extract (.tmp 59) 0, none, false⟩,
                ⟨(some 61), .extract (.tmp 59) 1, none, false⟩,
                ⟨(some 62), .extract (.tmp 59) 2, none, false⟩,
                ⟨(some 63), .call (.func 23) [(.tmp 56), (.tmp 60), (.tmp 61), (.tmp 62)], none, false⟩])))
        (.region false [⟨(some 64), .bin .add 3 (.tmp 52) (.const (.int .i64 1)), none, false⟩,
            ⟨(some 52), .move (.tmp 64), none, false⟩])))
/-- patchbay/access.Reads -/
def ac17 : AC :=
  .seq (.region false [⟨(some 2), .box false 31 (.tmp 0), none, false⟩,
        ⟨(some 3), .box false 64 (.tmp 1), none, false⟩,
        ⟨(some 4), .move (.const (.slice none 0 0)), none, false⟩])
    (.seq (.region false [⟨(some 12), .load 9 true (.tmp 2), none, false⟩,
          ⟨(some 13), .build [(.string ⟨[].toArray⟩), (.slice none 0 0), (.slice none 0 0), (.slice none 0 0), (.slice none 0 0), (.slice none 0 0), (.slice none 0 0), (.slice none 0 0), (.slice none 0 0), (.slice none 0 0)] [(0, 9, (.tmp 12))], none, false⟩,
          ⟨(some 14), .box true 80 (.tmp 13), none, false⟩,
          ⟨(some 5), .move (.tmp 14), none, false⟩])
      (.seq (.seq (.region false [⟨(some 15), .faddr 0 1 false (.tmp 3), none, false⟩,
              ⟨(some 16), .load 1 false (.tmp 15), none, false⟩,
              ⟨(some 17), .bin .eql 3 (.tmp 16) (.const (.int .i64 (-1))), none, false⟩])
          (.cond (.tmp 17)
            (.seq (.regionT [⟨(some 18), .move (.tmp 5), none, false⟩,
                  ⟨(some 19), .faddr 1 1 false (.tmp 3), none, false⟩,
                  ⟨(some 20), .load 1 false (.tmp 19), none, false⟩,
                  ⟨(some 21), .call (.func 24) [(.tmp 20)], none, false⟩,
                  ⟨(some 22), .faddr 1 1 false (.tmp 3), none, false⟩,
                  ⟨(some 23), .load 1 false (.tmp 22), none, false⟩,
                  ⟨(some 24), .call (.func 25) [(.tmp 23)], none, false⟩] ⟨(some 25), .call (.func 23) [(.tmp 18), (.tmp 21), (.tmp 24), (.const (.slice none 0 0))], none, false⟩)
              (.seq (.region false [⟨(some 26), .move (.tmp 5), none, false⟩,
                    ⟨(some 27), .call (.func 26) [(.tmp 26)], none, false⟩,
                    ⟨(some 4), .move (.tmp 27), none, false⟩])
                (.ret)))
            (.skip)))
        (.seq (.region false [⟨(some 29), .load 9 true (.tmp 2), none, false⟩,
              ⟨(some 30), .load 3 true (.tmp 3), none, false⟩,
              ⟨(some 31), .call (.func 27) [(.tmp 29), (.tmp 30)], none, false⟩,
              ⟨(some 28), .move (.tmp 31), none, false⟩,
              ⟨(some 32), .extract (.tmp 28) 0, none, false⟩,
              ⟨(some 33), .extract (.tmp 28) 1, none, false⟩,
              ⟨(some 6), .alloc true 53 (.agg [(.string ⟨[].toArray⟩), (.slice none 0 0), (.slice none 0 0), (.int .i64 0), (.slice none 0 0), (.int .i64 0)].toArray), none, false⟩,
              ⟨none, .store 6 (.tmp 6) (.tmp 32), none, false⟩,
              ⟨(some 7), .move (.tmp 33), none, false⟩])
          (.seq (.seq (.region false [⟨(some 34), .move (.tmp 7), none, false⟩,
                  ⟨(some 35), .un .not (.tmp 34), none, false⟩])
              (.cond (.tmp 35)
                (.seq (.region false [⟨(some 4), .move (.const (.slice none 0 0)), none, false⟩])
                  (.ret))
                (.skip)))
            (.seq (.seq (.region false [⟨(some 36), .faddr 1 1 false (.tmp 6), none, false⟩,
                    ⟨(some 37), .load 1 false (.tmp 36), none, false⟩,
                    ⟨(some 38), .bi .len [48].toArray 3 [(.tmp 37)], none, false⟩,
                    ⟨(some 39), .move (.const (.int .i64 0)), none, false⟩])
                (.block 0 (.loop ac17_L1)))
              (.seq (.seq (.region false [⟨(some 49), .faddr 2 1 false (.tmp 6), none, false⟩,
                      ⟨(some 50), .load 1 false (.tmp 49), none, false⟩,
                      ⟨(some 51), .bi .len [29].toArray 3 [(.tmp 50)], none, false⟩,
                      ⟨(some 52), .move (.const (.int .i64 0)), none, false⟩])
                  (.block 2 (.loop ac17_L2)))
                (.seq (.region false [⟨(some 65), .move (.tmp 5), none, false⟩,
                      ⟨(some 66), .call (.func 26) [(.tmp 65)], none, false⟩,
                      ⟨(some 4), .move (.tmp 66), none, false⟩])
                  (.ret))))))))
theorem text17 : FnText Try.prog 17 [14, 6, 9] 67 2 ac17 [(4, none)] :=
  ⟨Try.call17, follows, Try.f17, _, Try.func17, rfl, rfl, by decide, by kernel_rfl, by kernel_rfl⟩

def ac24_L1 : AC :=
  .seq (.region false [⟨(some 9), .bin .lss 3 (.tmp 8) (.tmp 7), none, false⟩])
    (.seq (.cond (.tmp 9)
        (.skip)
        (.exit 0))
      (.seq (.block 1 (.seq (.region false [⟨(some 10), .iaddr 3 (.tmp 6) (.tmp 8), none, false⟩,
                ⟨(some 11), .load 3 true (.tmp 10), none, false⟩,
                ⟨(some 5), .alloc true 60 (.agg [(.int .i64 0), (.int .i64 0), (.int .i64 0)].toArray), none, false⟩,
                ⟨none, .store 3 (.tmp 5) (.tmp 11), none, false⟩])
            (.seq (.region false [⟨(some 12), .faddr 0 1 false (.tmp 5), none, false⟩,
                  ⟨(some 13), .load 1 false (.tmp 12), none, false⟩,
                  ⟨(some 14), .bin .eql 3 (.tmp 13) (.const (.int .i64 2)), none, false⟩])
              (.cond (.tmp 14)
                (.region false [⟨(some 15), .move (.tmp 3), none, false⟩,
                    ⟨(some 16), .faddr 1 1 false (.tmp 5), none, false⟩,
                    ⟨(some 17), .load 1 false (.tmp 16), none, false⟩,
                    ⟨(some 18), .faddr 2 1 false (.tmp 5), none, false⟩,
                    ⟨(some 19), .load 1 false (.tmp 18), none, false⟩,
                    ⟨(some 20), .build [(.int .i64 0), (.int .i64 0)] [(0, 1, (.tmp 17)), (1, 1, (.tmp 19))], none, false⟩,
                    ⟨(some 21), .bslice false 39 2 false [(.tmp 20)], none, false⟩,
                    ⟨(some 22), .append 82 39 2 16 (.tmp 15) (.tmp 21), none, false⟩,
                    ⟨(some 3), .move (.tmp 22), none, false⟩])
                (.skip)))))
        (.region false [⟨(some 23), .bin .add 3 (.tmp 8) (.const (.int .i64 1)), none, false⟩,
            ⟨(some 8), .move (.tmp 23), none, false⟩])))
/-- patchbay/expr.Fields -/
def ac24 : AC :=
  .seq (.region false [⟨(some 2), .move (.const (.slice none 0 0)), none, false⟩])
    (.seq (.region false [⟨(some 3), .move (.const (.slice none 0 0)), none, false⟩])
      (.seq (.seq (.region false [⟨(some 6), .move (.tmp 0), none, false⟩,
              ⟨(some 7), .bi .len [61].toArray 3 [(.tmp 6)], none, false⟩,
              ⟨(some 8), .move (.const (.int .i64 0)), none, false⟩])
          (.block 0 (.loop ac24_L1)))
        (.seq (.region false [⟨(some 24), .move (.tmp 3), none, false⟩,
              ⟨(some 25), .call (.func 35) [(.tmp 24), (.func 36)], none, false⟩])
          (.seq (.region false [⟨(some 26), .move (.tmp 3), none, false⟩,
                ⟨(some 27), .call (.func 39) [(.tmp 26)], none, false⟩,
                ⟨(some 2), .move (.tmp 27), none, false⟩])
            (.ret)))))
theorem text24 : FnText Try.prog 24 [5] 28 1 ac24 [(2, none)] :=
  ⟨Try.call24, follows, Try.f24, _, Try.func24, rfl, rfl, by decide, by kernel_rfl, by kernel_rfl⟩


/-- slices.SortFunc[[]patchbay/api.FieldRef,patchbay/api.FieldRef] -/
def ac35 : AC :=
  .seq (.region false [⟨(some 5), .move (.tmp 0), none, false⟩,
        ⟨(some 6), .bi .len [82].toArray 3 [(.tmp 5)], none, false⟩,
        ⟨(some 4), .move (.tmp 6), none, false⟩])
    (.region false [⟨(some 7), .move (.tmp 0), none, false⟩,
        ⟨(some 8), .move (.tmp 4), none, false⟩,
        ⟨(some 9), .move (.tmp 4), none, false⟩,
        ⟨(some 10), .conv 3 113 (.tmp 9), none, false⟩,
        ⟨(some 11), .call (.func 48) [(.tmp 10)], none, false⟩,
        ⟨(some 12), .move (.tmp 1), none, false⟩,
        ⟨(some 13), .call (.func 47) [(.tmp 7), (.const (.int .i64 0)), (.tmp 8), (.tmp 11), (.tmp 12)], none, false⟩])
theorem text35 : FnText Try.prog 35 [] 14 2 ac35 [] :=
  ⟨Try.call35, follows, Try.f35, _, Try.func35, rfl, rfl, by decide, by kernel_rfl, by kernel_rfl⟩


/-- math/bits.Len -/
def ac48 : AC :=
  .seq (.region false [⟨(some 2), .move (.const (.int .i64 0)), none, false⟩])
    (.seq (.cond (.const (.bool false))
        (.seq (.region false [⟨(some 3), .move (.tmp 0), none, false⟩,
              ⟨(some 4), .conv 113 94 (.tmp 3), none, false⟩,
              ⟨(some 5), .call (.func 61) [(.tmp 4)], none, false⟩,
              ⟨(some 2), .move (.tmp 5), none, false⟩])
          (.ret))
        (.skip))
      (.seq (.region false [⟨(some 6), .move (.tmp 0), none, false⟩,
            ⟨(some 7), .call (.func 62) [(.tmp 6)], none, false⟩,
            ⟨(some 2), .move (.tmp 7), none, false⟩])
        (.ret)))
theorem text48 : FnText Try.prog 48 [] 8 1 ac48 [(2, none)] :=
  ⟨Try.call48, follows, Try.f48, _, Try.func48, rfl, rfl, by decide, by kernel_rfl, by kernel_rfl⟩


/-- math/bits.Len32 -/
def ac61 : AC :=
  .seq (.region false [⟨(some 2), .move (.const (.int .i64 0)), none, false⟩])
    (.seq (.seq (.region false [⟨(some 3), .move (.tmp 0), none, false⟩,
            ⟨(some 4), .bin .geq 94 (.tmp 3) (.const (.int .u32 65536)), none, false⟩])
        (.cond (.tmp 4)
          (.seq (.region false [⟨(some 5), .move (.tmp 0), none, false⟩,
                ⟨(some 6), .bin .shr 94 (.tmp 5) (.const (.int .u64 16)), none, false⟩,
                ⟨(some 0), .move (.tmp 6), none, false⟩])
            (.region false [⟨(some 2), .move (.const (.int .i64 16)), none, false⟩]))
          (.skip)))
      (.seq (.seq (.region false [⟨(some 7), .move (.tmp 0), none, false⟩,
              ⟨(some 8), .bin .geq 94 (.tmp 7) (.const (.int .u32 256)), none, false⟩])
          (.cond (.tmp 8)
            (.seq (.region false [⟨(some 9), .move (.tmp 0), none, false⟩,
                  ⟨(some 10), .bin .shr 94 (.tmp 9) (.const (.int .u64 8)), none, false⟩,
                  ⟨(some 0), .move (.tmp 10), none, false⟩])
              (.region false [⟨(some 11), .move (.tmp 2), none, false⟩,
                  ⟨(some 12), .bin .add 3 (.tmp 11) (.const (.int .i64 8)), none, false⟩,
                  ⟨(some 2), .move (.tmp 12), none, false⟩]))
            (.skip)))
        (.seq (.region false [⟨(some 13), .move (.tmp 2), none, false⟩,
              ⟨(some 14), .move (.tmp 0), none, false⟩,
              ⟨(some 15), .conv 94 5 (.tmp 14), none, false⟩,
              ⟨(some 16), .indexS 9 (.const (.string ⟨[0, 1, 2, 2, 3, 3, 3, 3, 4, 4, 4, 4, 4, 4, 4, 4, 5, 5, 5, 5, 5, 5, 5, 5, 5, 5, 5, 5, 5, 5, 5, 5, 6, 6, 6, 6, 6, 6, 6, 6, 6, 6, 6, 6, 6, 6, 6, 6, 6, 6, 6, 6, 6, 6, 6, 6, 6, 6, 6, 6, 6, 6, 6, 6, 7, 7, 7, 7, 7, 7, 7, 7, 7, 7, 7, 7, 7, 7, 7, 7, 7, 7, 7, 7, 7, 7, 7, 7, 7, 7, 7, 7, 7, 7, 7, 7, 7, 7, 7, 7, 7, 7, 7, 7, 7, 7, 7, 7, 7, 7, 7, 7, 7, 7, 7, 7, 7, 7, 7, 7, 7, 7, 7, 7, 7, 7, 7, 7, 8, 8, 8, 8, 8, 8, 8, 8, 8, 8, 8, 8, 8, 8, 8, 8, 8, 8, 8, 8, 8, 8, 8, 8, 8, 8, 8, 8, 8, 8, 8, 8, 8, 8, 8, 8, 8, 8, 8, 8, 8, 8, 8, 8, 8, 8, 8, 8, 8, 8, 8, 8, 8, 8, 8, 8, 8, 8, 8, 8, 8, 8, 8, 8, 8, 8, 8, 8, 8, 8, 8, 8, 8, 8, 8, 8, 8, 8, 8, 8, 8, 8, 8, 8, 8, 8, 8, 8, 8, 8, 8, 8, 8, 8, 8, 8, 8, 8, 8, 8, 8, 8, 8, 8, 8, 8, 8, 8, 8, 8, 8, 8, 8, 8, 8, 8, 8, 8, 8, 8, 8, 8, 8, 8, 8, 8, 8, 8].toArray⟩)) (.tmp 15), none, false⟩,
              ⟨(some 17), .conv 5 3 (.tmp 16), none, false⟩,
              ⟨(some 18), .bin .add 3 (.tmp 13) (.tmp 17), none, false⟩,
              ⟨(some 2), .move (.tmp 18), none, false⟩])
          (.ret))))
theorem text61 : FnText Try.prog 61 [] 19 1 ac61 [(2, none)] :=
  ⟨Try.call61, follows, Try.f61, _, Try.func61, rfl, rfl, by decide, by kernel_rfl, by kernel_rfl⟩


/-- math/bits.Len64 -/
def ac62 : AC :=
  .seq (.region false [⟨(some 2), .move (.const (.int .i64 0)), none, false⟩])
    (.seq (.seq (.region false [⟨(some 3), .move (.tmp 0), none, false⟩,
            ⟨(some 4), .bin .geq 130 (.tmp 3) (.const (.int .u64 4294967296)), none, false⟩])
        (.cond (.tmp 4)
          (.seq (.region false [⟨(some 5), .move (.tmp 0), none, false⟩,
                ⟨(some 6), .bin .shr 130 (.tmp 5) (.const (.int .u64 32)), none, false⟩,
                ⟨(some 0), .move (.tmp 6), none, false⟩])
            (.region false [⟨(some 2), .move (.const (.int .i64 32)), none, false⟩]))
          (.skip)))
      (.seq (.seq (.region false [⟨(some 7), .move (.tmp 0), none, false⟩,
              ⟨(some 8), .bin .geq 130 (.tmp 7) (.const (.int .u64 65536)), none, false⟩])
          (.cond (.tmp 8)
            (.seq (.region false [⟨(some 9), .move (.tmp 0), none, false⟩,
                  ⟨(some 10), .bin .shr 130 (.tmp 9) (.const (.int .u64 16)), none, false⟩,
                  ⟨(some 0), .move (.tmp 10), none, false⟩])
              (.region false [⟨(some 11), .move (.tmp 2), none, false⟩,
                  ⟨(some 12), .bin .add 3 (.tmp 11) (.const (.int .i64 16)), none, false⟩,
                  ⟨(some 2), .move (.tmp 12), none, false⟩]))
            (.skip)))
        (.seq (.seq (.region false [⟨(some 13), .move (.tmp 0), none, false⟩,
                ⟨(some 14), .bin .geq 130 (.tmp 13) (.const (.int .u64 256)), none, false⟩])
            (.cond (.tmp 14)
              (.seq (.region false [⟨(some 15), .move (.tmp 0), none, false⟩,
                    ⟨(some 16), .bin .shr 130 (.tmp 15) (.const (.int .u64 8)), none, false⟩,
                    ⟨(some 0), .move (.tmp 16), none, false⟩])
                (.region false [⟨(some 17), .move (.tmp 2), none, false⟩,
                    ⟨(some 18), .bin .add 3 (.tmp 17) (.const (.int .i64 8)), none, false⟩,
                    ⟨(some 2), .move (.tmp 18), none, false⟩]))
              (.skip)))
          (.seq (.region false [⟨(some 19), .move (.tmp 2), none, false⟩,
                ⟨(some 20), .move (.tmp 0), none, false⟩,
                ⟨(some 21), .conv 130 5 (.tmp 20), none, false⟩,
                ⟨(some 22), .indexS 9 (.const (.string ⟨[0, 1, 2, 2, 3, 3, 3, 3, 4, 4, 4, 4, 4, 4, 4, 4, 5, 5, 5, 5, 5, 5, 5, 5, 5, 5, 5, 5, 5, 5, 5, 5, 6, 6, 6, 6, 6, 6, 6, 6, 6, 6, 6, 6, 6, 6, 6, 6, 6, 6, 6, 6, 6, 6, 6, 6, 6, 6, 6, 6, 6, 6, 6, 6, 7, 7, 7, 7, 7, 7, 7, 7, 7, 7, 7, 7, 7, 7, 7, 7, 7, 7, 7, 7, 7, 7, 7, 7, 7, 7, 7, 7, 7, 7, 7, 7, 7, 7, 7, 7, 7, 7, 7, 7, 7, 7, 7, 7, 7, 7, 7, 7, 7, 7, 7, 7, 7, 7, 7, 7, 7, 7, 7, 7, 7, 7, 7, 7, 8, 8, 8, 8, 8, 8, 8, 8, 8, 8, 8, 8, 8, 8, 8, 8, 8, 8, 8, 8, 8, 8, 8, 8, 8, 8, 8, 8, 8, 8, 8, 8, 8, 8, 8, 8, 8, 8, 8, 8, 8, 8, 8, 8, 8, 8, 8, 8, 8, 8, 8, 8, 8, 8, 8, 8, 8, 8, 8, 8, 8, 8, 8, 8, 8, 8, 8, 8, 8, 8, 8, 8, 8, 8, 8, 8, 8, 8, 8, 8, 8, 8, 8, 8, 8, 8, 8, 8, 8, 8, 8, 8, 8, 8, 8, 8, 8, 8, 8, 8, 8, 8, 8, 8, 8, 8, 8, 8, 8, 8, 8, 8, 8, 8, 8, 8, 8, 8, 8, 8, 8, 8, 8, 8, 8, 8, 8, 8].toArray⟩)) (.tmp 21), none, false⟩,
                ⟨(some 23), .conv 5 3 (.tmp 22), none, false⟩,
                ⟨(some 24), .bin .add 3 (.tmp 19) (.tmp 23), none, false⟩,
                ⟨(some 2), .move (.tmp 24), none, false⟩])
            (.ret)))))
theorem text62 : FnText Try.prog 62 [] 25 1 ac62 [(2, none)] :=
  ⟨Try.call62, follows, Try.f62, _, Try.func62, rfl, rfl, by decide, by kernel_rfl, by kernel_rfl⟩

def ac47_G1 : List AOper :=
  [⟨(some 70), .move (.tmp 11), (some (69, true)), false⟩,
    ⟨(some 71), .pick (.tmp 69) (.tmp 70) (.const (.bool false)), none, false⟩]
def ac47_G2 : List AOper :=
  [⟨(some 73), .move (.tmp 14), (some (72, true)), false⟩,
    ⟨(some 74), .bin .eql 121 (.tmp 73) (.const (.int .i64 1)), (some (72, true)), false⟩,
    ⟨(some 75), .pick (.tmp 72) (.tmp 74) (.const (.bool false)), none, false⟩]
def ac47_G3 : List AOper :=
  [⟨(some 84), .move (.tmp 4), (some (83, true)), false⟩,
    ⟨(some 85), .move (.tmp 0), (some (83, true)), false⟩,
    ⟨(some 86), .move (.tmp 1), (some (83, true)), false⟩,
    ⟨(some 87), .bin .sub 3 (.tmp 86) (.const (.int .i64 1)), (some (83, true)), false⟩,
    ⟨(some 88), .iaddr 2 (.tmp 85) (.tmp 87), (some (83, true)), false⟩,
    ⟨(some 89), .load 2 true (.tmp 88), (some (83, true)), false⟩,
    ⟨(some 90), .move (.tmp 0), (some (83, true)), false⟩,
    ⟨(some 91), .move (.tmp 13), (some (83, true)), false⟩,
    ⟨(some 92), .iaddr 2 (.tmp 90) (.tmp 91), (some (83, true)), false⟩,
    ⟨(some 93), .load 2 true (.tmp 92), (some (83, true)), false⟩,
    ⟨(some 94), .call (.tmp 84) [(.tmp 89), (.tmp 93)], (some (83, true)), false⟩,
    ⟨(some 95), .bin .lss 3 (.tmp 94) (.const (.int .i64 0)), (some (83, true)), false⟩,
    ⟨(some 96), .un .not (.tmp 95), (some (83, true)), false⟩,
    ⟨(some 97), .pick (.tmp 83) (.tmp 96) (.const (.bool false)), none, false⟩]
def ac47_L1 : AC :=
  .block 1 (.seq (.region false [⟨(some 21), .move (.tmp 2), none, false⟩,
          ⟨(some 22), .move (.tmp 1), none, false⟩,
          ⟨(some 23), .bin .sub 3 (.tmp 21) (.tmp 22), none, false⟩,
          ⟨(some 12), .move (.tmp 23), none, false⟩])
      (.seq (.seq (.region false [⟨(some 24), .move (.tmp 12), none, false⟩,
              ⟨(some 25), .bin .leq 3 (.tmp 24) (.const (.int .i64 12)), none, false⟩])
          (.cond (.tmp 25)
            (.seq (.region false [⟨(some 26), .move (.tmp 0), none, false⟩,
                  ⟨(some 27), .move (.tmp 1), none, false⟩,
                  ⟨(some 28), .move (.tmp 2), none, false⟩,
                  ⟨(some 29), .move (.tmp 4), none, false⟩,
                  ⟨(some 30), .call (.func 53) [(.tmp 26), (.tmp 27), (.tmp 28), (.tmp 29)], none, false⟩])
              (.ret))
            (.skip)))
        (.seq (.seq (.region false [⟨(some 31), .move (.tmp 3), none, false⟩,
                ⟨(some 32), .bin .eql 3 (.tmp 31) (.const (.int .i64 0)), none, false⟩])
            (.cond (.tmp 32)
              (.seq (.region false [⟨(some 33), .move (.tmp 0), none, false⟩,
                    ⟨(some 34), .move (.tmp 1), none, false⟩,
                    ⟨(some 35), .move (.tmp 2), none, false⟩,
                    ⟨(some 36), .move (.tmp 4), none, false⟩,
                    ⟨(some 37), .call (.func 54) [(.tmp 33), (.tmp 34), (.tmp 35), (.tmp 36)], none, false⟩])
                (.ret))
              (.skip)))
          (.seq (.seq (.region false [⟨(some 38), .move (.tmp 10), none, false⟩,
                  ⟨(some 39), .un .not (.tmp 38), none, false⟩])
              (.cond (.tmp 39)
                (.seq (.region false [⟨(some 40), .move (.tmp 0), none, false⟩,
                      ⟨(some 41), .move (.tmp 1), none, false⟩,
                      ⟨(some 42), .move (.tmp 2), none, false⟩,
                      ⟨(some 43), .move (.tmp 4), none, false⟩,
                      ⟨(some 44), .call (.func 55) [(.tmp 40), (.tmp 41), (.tmp 42), (.tmp 43)], none, false⟩])
                  (.region false [⟨(some 45), .move (.tmp 3), none, false⟩,
                      ⟨(some 46), .bin .sub 3 (.tmp 45) (.const (.int .i64 1)), none, false⟩,
                      ⟨(some 3), .move (.tmp 46), none, false⟩]))
                (.skip)))
            (.seq (.region false [⟨(some 48), .move (.tmp 0), none, false⟩,
                  ⟨(some 49), .move (.tmp 1), none, false⟩,
                  ⟨(some 50), .move (.tmp 2), none, false⟩,
                  ⟨(some 51), .move (.tmp 4), none, false⟩,
                  ⟨(some 52), .call (.func 56) [(.tmp 48), (.tmp 49), (.tmp 50), (.tmp 51)], none, false⟩,
                  ⟨(some 47), .move (.tmp 52), none, false⟩,
                  ⟨(some 53), .extract (.tmp 47) 0, none, false⟩,
                  ⟨(some 54), .extract (.tmp 47) 1, none, false⟩,
                  ⟨(some 13), .move (.tmp 53), none, false⟩,
                  ⟨(some 14), .move (.tmp 54), none, false⟩])
              (.seq (.seq (.region false [⟨(some 55), .move (.tmp 14), none, false⟩,
                      ⟨(some 56), .bin .eql 121 (.tmp 55) (.const (.int .i64 2)), none, false⟩])
                  (.cond (.tmp 56)
                    (.seq (.region false [⟨(some 57), .move (.tmp 0), none, false⟩,
                          ⟨(some 58), .move (.tmp 1), none, false⟩,
                          ⟨(some 59), .move (.tmp 2), none, false⟩,
                          ⟨(some 60), .move (.tmp 4), none, false⟩,
                          ⟨(some 61), .call (.func 57) [(.tmp 57), (.tmp 58), (.tmp 59), (.tmp 60)], none, false⟩])
                      (.seq (.region false [⟨(some 62), .move (.tmp 2), none, false⟩,
                            ⟨(some 63), .bin .sub 3 (.tmp 62) (.const (.int .i64 1)), none, false⟩,
                            ⟨(some 64), .move (.tmp 13), none, false⟩,
                            ⟨(some 65), .move (.tmp 1), none, false⟩,
                            ⟨(some 66), .bin .sub 3 (.tmp 64) (.tmp 65), none, false⟩,
                            ⟨(some 67), .bin .sub 3 (.tmp 63) (.tmp 66), none, false⟩,
                            ⟨(some 13), .move (.tmp 67), none, false⟩])
                        (.region false [⟨(some 14), .move (.const (.int .i64 1)), none, false⟩])))
                    (.skip)))
                (.seq (.seq (.region false (⟨(some 68), .move (.tmp 10), none, false⟩ :: ⟨(some 69), .move (.tmp 68), none, false⟩ :: (ac47_G1 ++ (⟨(some 72), .move (.tmp 71), none, false⟩ :: (ac47_G2 ++ [])))))
                    (.cond (.tmp 75)
                      (.seq (.region false [⟨(some 76), .move (.tmp 0), none, false⟩,
                            ⟨(some 77), .move (.tmp 1), none, false⟩,
                            ⟨(some 78), .move (.tmp 2), none, false⟩,
                            ⟨(some 79), .move (.tmp 4), none, false⟩,
                            ⟨(some 80), .call (.func 58) [(.tmp 76), (.tmp 77), (.tmp 78), (.tmp 79)], none, false⟩])
                        (.cond (.tmp 80)
                          (.ret)
                          (.skip)))
                      (.skip)))
                  (.seq (.seq (.region true (⟨(some 81), .move (.tmp 1), none, false⟩ :: ⟨(some 82), .bin .gtr 3 (.tmp 81) (.const (.int .i64 0)), none, false⟩ :: ⟨(some 83), .move (.tmp 82), none, false⟩ :: (ac47_G3 ++ [])))
                      (.cond (.tmp 97)
                        (.seq (.region false [⟨(some 98), .move (.tmp 0), none, false⟩,
                              ⟨(some 99), .move (.tmp 1), none, false⟩,
                              ⟨(some 100), .move (.tmp 2), none, false⟩,
                              ⟨(some 101), .move (.tmp 13), none, false⟩,
                              ⟨(some 102), .move (.tmp 4), none, false⟩,
                              ⟨(some 103), .call (.func 59) [(.tmp 98), (.tmp 99), (.tmp 100), (.tmp 101), (.tmp 102)], none, false⟩,
                              ⟨(some 15), .move (.tmp 103), none, false⟩])
                          (.seq (.region false [⟨(some 104), .move (.tmp 15), none, false⟩,
                                ⟨(some 1), .move (.tmp 104), none, false⟩])
                            (.exit 1)))
                        (.skip)))
                    (.seq (.region false [⟨(some 106), .move (.tmp 0), none, false⟩,
                          ⟨(some 107), .move (.tmp 1), none, false⟩,
                          ⟨(some 108), .move (.tmp 2), none, false⟩,
                          ⟨(some 109), .move (.tmp 13), none, false⟩,
                          ⟨(some 110), .move (.tmp 4), none, false⟩,
                          ⟨(some 111), .call (.func 60) [(.tmp 106), (.tmp 107), (.tmp 108), (.tmp 109), (.tmp 110)], none, false⟩,
                          ⟨(some 105), .move (.tmp 111), none, false⟩,
                          ⟨(some 112), .extract (.tmp 105) 0, none, false⟩,
                          ⟨(some 113), .extract (.tmp 105) 1, none, false⟩,
                          ⟨(some 16), .move (.tmp 112), none, false⟩,
                          ⟨(some 17), .move (.tmp 113), none, false⟩])
                      (.seq (.region false [⟨(some 114), .move (.tmp 17), none, false⟩,
                            ⟨(some 11), .move (.tmp 114), none, false⟩])
                        (.seq (.region false [⟨(some 115), .move (.tmp 16), none, false⟩,
                              ⟨(some 116), .move (.tmp 1), none, false⟩,
                              ⟨(some 117), .bin .sub 3 (.tmp 115) (.tmp 116), none, false⟩,
                              ⟨(some 118), .move (.tmp 2), none, false⟩,
                              ⟨(some 119), .move (.tmp 16), none, false⟩,
                              ⟨(some 120), .bin .sub 3 (.tmp 118) (.tmp 119), none, false⟩,
                              ⟨(some 18), .move (.tmp 117), none, false⟩,
                              ⟨(some 19), .move (.tmp 120), none, false⟩])
                          (.seq (.region false [⟨(some 121), .move (.tmp 12), none, false⟩,
                                ⟨(some 122), .bin .quo 3 (.tmp 121) (.const (.int .i64 8)), none, false⟩,
                                ⟨(some 20), .move (.tmp 122), none, false⟩])
                            (.seq (.region false [⟨(some 123), .move (.tmp 18), none, false⟩,
                                  ⟨(some 124), .move (.tmp 19), none, false⟩,
                                  ⟨(some 125), .bin .lss 3 (.tmp 123) (.tmp 124), none, false⟩])
                              (.cond (.tmp 125)
                                (.seq (.region false [⟨(some 126), .move (.tmp 18), none, false⟩,
                                      ⟨(some 127), .move (.tmp 20), none, false⟩,
                                      ⟨(some 128), .bin .geq 3 (.tmp 126) (.tmp 127), none, false⟩,
                                      ⟨(some 10), .move (.tmp 128), none, false⟩])
                                  (.seq (.region false [⟨(some 129), .move (.tmp 0), none, false⟩,
                                        ⟨(some 130), .move (.tmp 1), none, false⟩,
                                        ⟨(some 131), .move (.tmp 16), none, false⟩,
                                        ⟨(some 132), .move (.tmp 3), none, false⟩,
                                        ⟨(some 133), .move (.tmp 4), none, false⟩,
                                        ⟨(some 134), .call (.func 47) [(.tmp 129), (.tmp 130), (.tmp 131), (.tmp 132), (.tmp 133)], none, false⟩])
                                    (.region false [⟨(some 135), .move (.tmp 16), none, false⟩,
                                        ⟨(some 136), .bin .add 3 (.tmp 135) (.const (.int .i64 1)), none, false⟩,
                                        ⟨(some 1), .move (.tmp 136), none, false⟩])))
                                (.seq (.region false [⟨(some 137), .move (.tmp 19), none, false⟩,
                                      ⟨(some 138), .move (.tmp 20), none, false⟩,
                                      ⟨(some 139), .bin .geq 3 (.tmp 137) (.tmp 138), none, false⟩,
                                      ⟨(some 10), .move (.tmp 139), none, false⟩])
                                  (.seq (.region false [⟨(some 140), .move (.tmp 0), none, false⟩,
                                        ⟨(some 141), .move (.tmp 16), none, false⟩,
                                        ⟨(some 142), .bin .add 3 (.tmp 141) (.const (.int .i64 1)), none, false⟩,
                                        ⟨(some 143), .move (.tmp 2), none, false⟩,
                                        ⟨(some 144), .move (.tmp 3), none, false⟩,
                                        ⟨(some 145), .move (.tmp 4), none, false⟩,
                                        ⟨(some 146), .call (.func 47) [(.tmp 140), (.tmp 142), (.tmp 143), (.tmp 144), (.tmp 145)], none, false⟩])
                                    (.region false [⟨(some 147), .move (.tmp 16), none, false⟩,
                                        ⟨(some 2), .move (.tmp 147), none, false⟩])))))))))))))))))
/-- slices.pdqsortCmpFunc[patchbay/api.FieldRef] -/
def ac47 : AC :=
  .seq (.region false [⟨(some 10), .move (.const (.bool true)), none, false⟩])
    (.seq (.region false [⟨(some 11), .move (.const (.bool true)), none, false⟩])
      (.block 0 (.loop ac47_L1)))
theorem text47 : FnText Try.prog 47 [] 148 5 ac47 [] :=
  ⟨Try.call47, follows, Try.f47, _, Try.func47, rfl, rfl, by decide, by kernel_rfl, by kernel_rfl⟩

def ac53_G1 : List AOper :=
  [⟨(some 22), .move (.tmp 3), (some (21, true)), false⟩,
    ⟨(some 23), .move (.tmp 0), (some (21, true)), false⟩,
    ⟨(some 24), .move (.tmp 9), (some (21, true)), false⟩,
    ⟨(some 25), .iaddr 2 (.tmp 23) (.tmp 24), (some (21, true)), false⟩,
    ⟨(some 26), .load 2 true (.tmp 25), (some (21, true)), false⟩,
    ⟨(some 27), .move (.tmp 0), (some (21, true)), false⟩,
    ⟨(some 28), .move (.tmp 9), (some (21, true)), false⟩,
    ⟨(some 29), .bin .sub 3 (.tmp 28) (.const (.int .i64 1)), (some (21, true)), false⟩,
    ⟨(some 30), .iaddr 2 (.tmp 27) (.tmp 29), (some (21, true)), false⟩,
    ⟨(some 31), .load 2 true (.tmp 30), (some (21, true)), false⟩,
    ⟨(some 32), .call (.tmp 22) [(.tmp 26), (.tmp 31)], (some (21, true)), false⟩,
    ⟨(some 33), .bin .lss 3 (.tmp 32) (.const (.int .i64 0)), (some (21, true)), false⟩,
    ⟨(some 34), .pick (.tmp 21) (.tmp 33) (.const (.bool false)), none, false⟩]
def ac53_L2 : AC :=
  .seq (.seq (.region true (⟨(some 18), .move (.tmp 9), none, false⟩ :: ⟨(some 19), .move (.tmp 1), none, false⟩ :: ⟨(some 20), .bin .gtr 3 (.tmp 18) (.tmp 19), none, false⟩ :: ⟨(some 21), .move (.tmp 20), none, false⟩ :: (ac53_G1 ++ [])))
      (.cond (.tmp 34)
        (.skip)
        (.exit 2)))
    (.seq (.block 3 (.region true [⟨(some 37), .move (.tmp 0), none, false⟩,
            ⟨(some 38), .move (.tmp 9), none, false⟩,
            ⟨(some 39), .move (.tmp 0), none, true⟩,
            ⟨(some 40), .move (.tmp 9), none, true⟩,
            ⟨(some 41), .bin .sub 3 (.tmp 40) (.const (.int .i64 1)), none, true⟩,
            ⟨(some 42), .move (.tmp 0), none, false⟩,
            ⟨(some 43), .move (.tmp 9), none, false⟩,
            ⟨(some 44), .bin .sub 3 (.tmp 43) (.const (.int .i64 1)), none, false⟩,
            ⟨(some 45), .iaddr 2 (.tmp 42) (.tmp 44), none, false⟩,
            ⟨(some 46), .load 2 true (.tmp 45), none, false⟩,
            ⟨(some 47), .move (.tmp 0), none, false⟩,
            ⟨(some 48), .move (.tmp 9), none, false⟩,
            ⟨(some 49), .iaddr 2 (.tmp 47) (.tmp 48), none, false⟩,
            ⟨(some 50), .load 2 true (.tmp 49), none, false⟩,
            ⟨(some 51), .iaddr 2 (.tmp 37) (.tmp 38), none, false⟩,
            ⟨none, .store 2 (.tmp 51) (.tmp 46), none, false⟩,
            ⟨(some 52), .iaddr 2 (.tmp 39) (.tmp 41), none, false⟩,
            ⟨none, .store 2 (.tmp 52) (.tmp 50), none, false⟩]))
      (.region false [⟨(some 35), .move (.tmp 9), none, false⟩,
          ⟨(some 36), .bin .sub 3 (.tmp 35) (.const (.int .i64 1)), none, false⟩,
          ⟨(some 9), .move (.tmp 36), none, false⟩]))
def ac53_L1 : AC :=
  .seq (.seq (.region false [⟨(some 12), .move (.tmp 8), none, false⟩,
          ⟨(some 13), .move (.tmp 2), none, false⟩,
          ⟨(some 14), .bin .lss 3 (.tmp 12) (.tmp 13), none, false⟩])
      (.cond (.tmp 14)
        (.skip)
        (.exit 0)))
    (.seq (.block 1 (.seq (.region false [⟨(some 17), .move (.tmp 8), none, false⟩,
              ⟨(some 9), .move (.tmp 17), none, false⟩])
          (.block 2 (.loop ac53_L2))))
      (.region false [⟨(some 15), .move (.tmp 8), none, false⟩,
          ⟨(some 16), .bin .add 3 (.tmp 15) (.const (.int .i64 1)), none, false⟩,
          ⟨(some 8), .move (.tmp 16), none, false⟩]))
/-- slices.insertionSortCmpFunc[patchbay/api.FieldRef] -/
def ac53 : AC :=
  .seq (.region false [⟨(some 10), .move (.tmp 1), none, false⟩,
        ⟨(some 11), .bin .add 3 (.tmp 10) (.const (.int .i64 1)), none, false⟩,
        ⟨(some 8), .move (.tmp 11), none, false⟩])
    (.block 0 (.loop ac53_L1))
theorem text53 : FnText Try.prog 53 [] 53 4 ac53 [] :=
  ⟨Try.call53, follows, Try.f53, _, Try.func53, rfl, rfl, by decide, by kernel_rfl, by kernel_rfl⟩

def ac54_L1 : AC :=
  .seq (.seq (.region false [⟨(some 20), .move (.tmp 11), none, false⟩,
          ⟨(some 21), .bin .geq 3 (.tmp 20) (.const (.int .i64 0)), none, false⟩])
      (.cond (.tmp 21)
        (.skip)
        (.exit 0)))
    (.seq (.block 1 (.region false [⟨(some 24), .move (.tmp 0), none, false⟩,
            ⟨(some 25), .move (.tmp 11), none, false⟩,
            ⟨(some 26), .move (.tmp 10), none, false⟩,
            ⟨(some 27), .move (.tmp 8), none, false⟩,
            ⟨(some 28), .move (.tmp 3), none, false⟩,
            ⟨(some 29), .call (.func 74) [(.tmp 24), (.tmp 25), (.tmp 26), (.tmp 27), (.tmp 28)], none, false⟩]))
      (.region false [⟨(some 22), .move (.tmp 11), none, false⟩,
          ⟨(some 23), .bin .sub 3 (.tmp 22) (.const (.int .i64 1)), none, false⟩,
          ⟨(some 11), .move (.tmp 23), none, false⟩]))
def ac54_L2 : AC :=
  .seq (.seq (.region false [⟨(some 32), .move (.tmp 12), none, false⟩,
          ⟨(some 33), .bin .geq 3 (.tmp 32) (.const (.int .i64 0)), none, false⟩])
      (.cond (.tmp 33)
        (.skip)
        (.exit 2)))
    (.seq (.block 3 (.seq (.region true [⟨(some 36), .move (.tmp 0), none, false⟩,
              ⟨(some 37), .move (.tmp 8), none, false⟩,
              ⟨(some 38), .move (.tmp 0), none, true⟩,
              ⟨(some 39), .move (.tmp 8), none, true⟩,
              ⟨(some 40), .move (.tmp 12), none, true⟩,
              ⟨(some 41), .bin .add 3 (.tmp 39) (.tmp 40), none, true⟩,
              ⟨(some 42), .move (.tmp 0), none, false⟩,
              ⟨(some 43), .move (.tmp 8), none, false⟩,
              ⟨(some 44), .move (.tmp 12), none, false⟩,
              ⟨(some 45), .bin .add 3 (.tmp 43) (.tmp 44), none, false⟩,
              ⟨(some 46), .iaddr 2 (.tmp 42) (.tmp 45), none, false⟩,
              ⟨(some 47), .load 2 true (.tmp 46), none, false⟩,
              ⟨(some 48), .move (.tmp 0), none, false⟩,
              ⟨(some 49), .move (.tmp 8), none, false⟩,
              ⟨(some 50), .iaddr 2 (.tmp 48) (.tmp 49), none, false⟩,
              ⟨(some 51), .load 2 true (.tmp 50), none, false⟩,
              ⟨(some 52), .iaddr 2 (.tmp 36) (.tmp 37), none, false⟩,
              ⟨none, .store 2 (.tmp 52) (.tmp 47), none, false⟩,
              ⟨(some 53), .iaddr 2 (.tmp 38) (.tmp 41), none, false⟩,
              ⟨none, .store 2 (.tmp 53) (.tmp 51), none, false⟩])
          (.region false [⟨(some 54), .move (.tmp 0), none, false⟩,
              ⟨(some 55), .move (.tmp 9), none, false⟩,
              ⟨(some 56), .move (.tmp 12), none, false⟩,
              ⟨(some 57), .move (.tmp 8), none, false⟩,
              ⟨(some 58), .move (.tmp 3), none, false⟩,
              ⟨(some 59), .call (.func 74) [(.tmp 54), (.tmp 55), (.tmp 56), (.tmp 57), (.tmp 58)], none, false⟩])))
      (.region false [⟨(some 34), .move (.tmp 12), none, false⟩,
          ⟨(some 35), .bin .sub 3 (.tmp 34) (.const (.int .i64 1)), none, false⟩,
          ⟨(some 12), .move (.tmp 35), none, false⟩]))
/-- slices.heapSortCmpFunc[patchbay/api.FieldRef] -/
def ac54 : AC :=
  .seq (.region false [⟨(some 13), .move (.tmp 1), none, false⟩,
        ⟨(some 8), .move (.tmp 13), none, false⟩])
    (.seq (.region false [⟨(some 9), .move (.const (.int .i64 0)), none, false⟩])
      (.seq (.region false [⟨(some 14), .move (.tmp 2), none, false⟩,
            ⟨(some 15), .move (.tmp 1), none, false⟩,
            ⟨(some 16), .bin .sub 3 (.tmp 14) (.tmp 15), none, false⟩,
            ⟨(some 10), .move (.tmp 16), none, false⟩])
        (.seq (.seq (.region false [⟨(some 17), .move (.tmp 10), none, false⟩,
                ⟨(some 18), .bin .sub 3 (.tmp 17) (.const (.int .i64 1)), none, false⟩,
                ⟨(some 19), .bin .quo 3 (.tmp 18) (.const (.int .i64 2)), none, false⟩,
                ⟨(some 11), .move (.tmp 19), none, false⟩])
            (.block 0 (.loop ac54_L1)))
          (.seq (.region false [⟨(some 30), .move (.tmp 10), none, false⟩,
                ⟨(some 31), .bin .sub 3 (.tmp 30) (.const (.int .i64 1)), none, false⟩,
                ⟨(some 12), .move (.tmp 31), none, false⟩])
            (.block 2 (.loop ac54_L2))))))
theorem text54 : FnText Try.prog 54 [] 60 4 ac54 [] :=
  ⟨Try.call54, follows, Try.f54, _, Try.func54, rfl, rfl, by decide, by kernel_rfl, by kernel_rfl⟩

def ac74_G1 : List AOper :=
  [⟨(some 24), .move (.tmp 4), (some (23, true)), false⟩,
    ⟨(some 25), .move (.tmp 0), (some (23, true)), false⟩,
    ⟨(some 26), .move (.tmp 3), (some (23, true)), false⟩,
    ⟨(some 27), .move (.tmp 11), (some (23, true)), false⟩,
    ⟨(some 28), .bin .add 3 (.tmp 26) (.tmp 27), (some (23, true)), false⟩,
    ⟨(some 29), .iaddr 2 (.tmp 25) (.tmp 28), (some (23, true)), false⟩,
    ⟨(some 30), .load 2 true (.tmp 29), (some (23, true)), false⟩,
    ⟨(some 31), .move (.tmp 0), (some (23, true)), false⟩,
    ⟨(some 32), .move (.tmp 3), (some (23, true)), false⟩,
    ⟨(some 33), .move (.tmp 11), (some (23, true)), false⟩,
    ⟨(some 34), .bin .add 3 (.tmp 32) (.tmp 33), (some (23, true)), false⟩,
    ⟨(some 35), .bin .add 3 (.tmp 34) (.const (.int .i64 1)), (some (23, true)), false⟩,
    ⟨(some 36), .iaddr 2 (.tmp 31) (.tmp 35), (some (23, true)), false⟩,
    ⟨(some 37), .load 2 true (.tmp 36), (some (23, true)), false⟩,
    ⟨(some 38), .call (.tmp 24) [(.tmp 30), (.tmp 37)], (some (23, true)), false⟩,
    ⟨(some 39), .bin .lss 3 (.tmp 38) (.const (.int .i64 0)), (some (23, true)), false⟩,
    ⟨(some 40), .pick (.tmp 23) (.tmp 39) (.const (.bool false)), none, false⟩]
def ac74_L1 : AC :=
  .block 1 (.seq (.region false [⟨(some 13), .move (.tmp 10), none, false⟩,
          ⟨(some 14), .bin .mul 3 (.const (.int .i64 2)) (.tmp 13), none, false⟩,
          ⟨(some 15), .bin .add 3 (.tmp 14) (.const (.int .i64 1)), none, false⟩,
          ⟨(some 11), .move (.tmp 15), none, false⟩])
      (.seq (.seq (.region false [⟨(some 16), .move (.tmp 11), none, false⟩,
              ⟨(some 17), .move (.tmp 2), none, false⟩,
              ⟨(some 18), .bin .geq 3 (.tmp 16) (.tmp 17), none, false⟩])
          (.cond (.tmp 18)
            (.exit 0)
            (.skip)))
        (.seq (.seq (.region true (⟨(some 19), .move (.tmp 11), none, false⟩ :: ⟨(some 20), .bin .add 3 (.tmp 19) (.const (.int .i64 1)), none, false⟩ :: ⟨(some 21), .move (.tmp 2), none, false⟩ :: ⟨(some 22), .bin .lss 3 (.tmp 20) (.tmp 21), none, false⟩ :: ⟨(some 23), .move (.tmp 22), none, false⟩ :: (ac74_G1 ++ [])))
            (.cond (.tmp 40)
              (.region false [⟨(some 41), .move (.tmp 11), none, false⟩,
                  ⟨(some 42), .bin .add 3 (.tmp 41) (.const (.int .i64 1)), none, false⟩,
                  ⟨(some 11), .move (.tmp 42), none, false⟩])
              (.skip)))
          (.seq (.seq (.region true [⟨(some 43), .move (.tmp 4), none, false⟩,
                  ⟨(some 44), .move (.tmp 0), none, false⟩,
                  ⟨(some 45), .move (.tmp 3), none, false⟩,
                  ⟨(some 46), .move (.tmp 10), none, false⟩,
                  ⟨(some 47), .bin .add 3 (.tmp 45) (.tmp 46), none, false⟩,
                  ⟨(some 48), .iaddr 2 (.tmp 44) (.tmp 47), none, false⟩,
                  ⟨(some 49), .load 2 true (.tmp 48), none, false⟩,
                  ⟨(some 50), .move (.tmp 0), none, false⟩,
                  ⟨(some 51), .move (.tmp 3), none, false⟩,
                  ⟨(some 52), .move (.tmp 11), none, false⟩,
                  ⟨(some 53), .bin .add 3 (.tmp 51) (.tmp 52), none, false⟩,
                  ⟨(some 54), .iaddr 2 (.tmp 50) (.tmp 53), none, false⟩,
                  ⟨(some 55), .load 2 true (.tmp 54), none, false⟩,
                  ⟨(some 56), .call (.tmp 43) [(.tmp 49), (.tmp 55)], none, false⟩,
                  ⟨(some 57), .bin .lss 3 (.tmp 56) (.const (.int .i64 0)), none, false⟩,
                  ⟨(some 58), .un .not (.tmp 57), none, false⟩])
              (.cond (.tmp 58)
                (.ret)
                (.skip)))
            (.seq (.region true [⟨(some 59), .move (.tmp 0), none, false⟩,
                  ⟨(some 60), .move (.tmp 3), none, false⟩,
                  ⟨(some 61), .move (.tmp 10), none, false⟩,
                  ⟨(some 62), .bin .add 3 (.tmp 60) (.tmp 61), none, false⟩,
                  ⟨(some 63), .move (.tmp 0), none, true⟩,
                  ⟨(some 64), .move (.tmp 3), none, true⟩,
                  ⟨(some 65), .move (.tmp 11), none, true⟩,
                  ⟨(some 66), .bin .add 3 (.tmp 64) (.tmp 65), none, true⟩,
                  ⟨(some 67), .move (.tmp 0), none, false⟩,
                  ⟨(some 68), .move (.tmp 3), none, false⟩,
                  ⟨(some 69), .move (.tmp 11), none, false⟩,
                  ⟨(some 70), .bin .add 3 (.tmp 68) (.tmp 69), none, false⟩,
                  ⟨(some 71), .iaddr 2 (.tmp 67) (.tmp 70), none, false⟩,
                  ⟨(some 72), .load 2 true (.tmp 71), none, false⟩,
                  ⟨(some 73), .move (.tmp 0), none, false⟩,
                  ⟨(some 74), .move (.tmp 3), none, false⟩,
                  ⟨(some 75), .move (.tmp 10), none, false⟩,
                  ⟨(some 76), .bin .add 3 (.tmp 74) (.tmp 75), none, false⟩,
                  ⟨(some 77), .iaddr 2 (.tmp 73) (.tmp 76), none, false⟩,
                  ⟨(some 78), .load 2 true (.tmp 77), none, false⟩,
                  ⟨(some 79), .iaddr 2 (.tmp 59) (.tmp 62), none, false⟩,
                  ⟨none, .store 2 (.tmp 79) (.tmp 72), none, false⟩,
                  ⟨(some 80), .iaddr 2 (.tmp 63) (.tmp 66), none, false⟩,
                  ⟨none, .store 2 (.tmp 80) (.tmp 78), none, false⟩])
              (.region false [⟨(some 81), .move (.tmp 11), none, false⟩,
                  ⟨(some 10), .move (.tmp 81), none, false⟩]))))))
/-- slices.siftDownCmpFunc[patchbay/api.FieldRef] -/
def ac74 : AC :=
  .seq (.region false [⟨(some 12), .move (.tmp 1), none, false⟩,
        ⟨(some 10), .move (.tmp 12), none, false⟩])
    (.block 0 (.loop ac74_L1))
theorem text74 : FnText Try.prog 74 [] 82 5 ac74 [] :=
  ⟨Try.call74, follows, Try.f74, _, Try.func74, rfl, rfl, by decide, by kernel_rfl, by kernel_rfl⟩

def ac55_L1 : AC :=
  .seq (.seq (.region false [⟨(some 28), .move (.tmp 11), none, false⟩,
          ⟨(some 29), .move (.tmp 1), none, false⟩,
          ⟨(some 30), .move (.tmp 8), none, false⟩,
          ⟨(some 31), .bin .quo 3 (.tmp 30) (.const (.int .i64 4)), none, false⟩,
          ⟨(some 32), .bin .mul 3 (.tmp 31) (.const (.int .i64 2)), none, false⟩,
          ⟨(some 33), .bin .add 3 (.tmp 29) (.tmp 32), none, false⟩,
          ⟨(some 34), .bin .add 3 (.tmp 33) (.const (.int .i64 1)), none, false⟩,
          ⟨(some 35), .bin .leq 3 (.tmp 28) (.tmp 34), none, false⟩])
      (.cond (.tmp 35)
        (.skip)
        (.exit 0)))
    (.seq (.block 1 (.seq (.region false [⟨(some 38), .call (.func 76) [(.tmp 9)], none, false⟩,
              ⟨(some 39), .move (.tmp 10), none, false⟩,
              ⟨(some 40), .bin .sub 113 (.tmp 39) (.const (.int .u64 1)), none, false⟩,
              ⟨(some 41), .bin .and 113 (.tmp 38) (.tmp 40), none, false⟩,
              ⟨(some 42), .conv 113 3 (.tmp 41), none, false⟩,
              ⟨(some 12), .move (.tmp 42), none, false⟩])
          (.seq (.seq (.region false [⟨(some 43), .move (.tmp 12), none, false⟩,
                  ⟨(some 44), .move (.tmp 8), none, false⟩,
                  ⟨(some 45), .bin .geq 3 (.tmp 43) (.tmp 44), none, false⟩])
              (.cond (.tmp 45)
                (.region false [⟨(some 46), .move (.tmp 12), none, false⟩,
                    ⟨(some 47), .move (.tmp 8), none, false⟩,
                    ⟨(some 48), .bin .sub 3 (.tmp 46) (.tmp 47), none, false⟩,
                    ⟨(some 12), .move (.tmp 48), none, false⟩])
                (.skip)))
            (.region true [⟨(some 49), .move (.tmp 0), none, false⟩,
                ⟨(some 50), .move (.tmp 11), none, false⟩,
                ⟨(some 51), .move (.tmp 0), none, true⟩,
                ⟨(some 52), .move (.tmp 1), none, true⟩,
                ⟨(some 53), .move (.tmp 12), none, true⟩,
                ⟨(some 54), .bin .add 3 (.tmp 52) (.tmp 53), none, true⟩,
                ⟨(some 55), .move (.tmp 0), none, false⟩,
                ⟨(some 56), .move (.tmp 1), none, false⟩,
                ⟨(some 57), .move (.tmp 12), none, false⟩,
                ⟨(some 58), .bin .add 3 (.tmp 56) (.tmp 57), none, false⟩,
                ⟨(some 59), .iaddr 2 (.tmp 55) (.tmp 58), none, false⟩,
                ⟨(some 60), .load 2 true (.tmp 59), none, false⟩,
                ⟨(some 61), .move (.tmp 0), none, false⟩,
                ⟨(some 62), .move (.tmp 11), none, false⟩,
                ⟨(some 63), .iaddr 2 (.tmp 61) (.tmp 62), none, false⟩,
                ⟨(some 64), .load 2 true (.tmp 63), none, false⟩,
                ⟨(some 65), .iaddr 2 (.tmp 49) (.tmp 50), none, false⟩,
                ⟨none, .store 2 (.tmp 65) (.tmp 60), none, false⟩,
                ⟨(some 66), .iaddr 2 (.tmp 51) (.tmp 54), none, false⟩,
                ⟨none, .store 2 (.tmp 66) (.tmp 64), none, false⟩]))))
      (.region false [⟨(some 36), .move (.tmp 11), none, false⟩,
          ⟨(some 37), .bin .add 3 (.tmp 36) (.const (.int .i64 1)), none, false⟩,
          ⟨(some 11), .move (.tmp 37), none, false⟩]))
/-- slices.breakPatternsCmpFunc[patchbay/api.FieldRef] -/
def ac55 : AC :=
  .seq (.region false [⟨(some 13), .move (.tmp 2), none, false⟩,
        ⟨(some 14), .move (.tmp 1), none, false⟩,
        ⟨(some 15), .bin .sub 3 (.tmp 13) (.tmp 14), none, false⟩,
        ⟨(some 8), .move (.tmp 15), none, false⟩])
    (.seq (.region false [⟨(some 16), .move (.tmp 8), none, false⟩,
          ⟨(some 17), .bin .geq 3 (.tmp 16) (.const (.int .i64 8)), none, false⟩])
      (.cond (.tmp 17)
        (.seq (.region false [⟨(some 18), .move (.tmp 8), none, false⟩,
              ⟨(some 19), .conv 3 143 (.tmp 18), none, false⟩,
              ⟨(some 9), .alloc true 143 (.int .u64 0), none, false⟩,
              ⟨none, .store 1 (.tmp 9) (.tmp 19), none, false⟩])
          (.seq (.region false [⟨(some 20), .move (.tmp 8), none, false⟩,
                ⟨(some 21), .call (.func 75) [(.tmp 20)], none, false⟩,
                ⟨(some 10), .move (.tmp 21), none, false⟩])
            (.seq (.region false [⟨(some 22), .move (.tmp 1), none, false⟩,
                  ⟨(some 23), .move (.tmp 8), none, false⟩,
                  ⟨(some 24), .bin .quo 3 (.tmp 23) (.const (.int .i64 4)), none, false⟩,
                  ⟨(some 25), .bin .mul 3 (.tmp 24) (.const (.int .i64 2)), none, false⟩,
                  ⟨(some 26), .bin .add 3 (.tmp 22) (.tmp 25), none, false⟩,
                  ⟨(some 27), .bin .sub 3 (.tmp 26) (.const (.int .i64 1)), none, false⟩,
                  ⟨(some 11), .move (.tmp 27), none, false⟩])
              (.block 0 (.loop ac55_L1)))))
        (.skip)))
theorem text55 : FnText Try.prog 55 [9] 67 4 ac55 [] :=
  ⟨Try.call55, follows, Try.f55, _, Try.func55, rfl, rfl, by decide, by kernel_rfl, by kernel_rfl⟩


/-- slices.nextPowerOfTwo -/
def ac75 : AC :=
  .seq (.region false [⟨(some 2), .move (.const (.int .u64 0)), none, false⟩])
    (.seq (.region false [⟨(some 3), .move (.tmp 0), none, false⟩,
          ⟨(some 4), .conv 3 113 (.tmp 3), none, false⟩,
          ⟨(some 5), .call (.func 48) [(.tmp 4)], none, false⟩,
          ⟨(some 6), .bin .shl 113 (.const (.int .u64 1)) (.tmp 5), none, false⟩,
          ⟨(some 2), .move (.tmp 6), none, false⟩])
      (.ret))
theorem text75 : FnText Try.prog 75 [] 7 1 ac75 [(2, none)] :=
  ⟨Try.call75, follows, Try.f75, _, Try.func75, rfl, rfl, by decide, by kernel_rfl, by kernel_rfl⟩


/-- (*slices.xorshift).Next -/
def ac76 : AC :=
  .seq (.region false [⟨(some 2), .move (.const (.int .u64 0)), none, false⟩])
    (.seq (.region true [⟨(some 3), .move (.tmp 0), none, false⟩,
          ⟨(some 4), .nilCheck (.tmp 3), none, false⟩,
          ⟨(some 5), .load 1 false (.tmp 4), none, false⟩,
          ⟨(some 6), .move (.tmp 0), none, false⟩,
          ⟨(some 7), .nilCheck (.tmp 6), none, false⟩,
          ⟨(some 8), .load 1 false (.tmp 7), none, false⟩,
          ⟨(some 9), .bin .shl 143 (.tmp 8) (.const (.int .u64 13)), none, false⟩,
          ⟨(some 10), .bin .xor 143 (.tmp 5) (.tmp 9), none, false⟩,
          ⟨(some 11), .nilCheck (.tmp 3), none, false⟩,
          ⟨none, .store 1 (.tmp 11) (.tmp 10), none, false⟩])
      (.seq (.region true [⟨(some 12), .move (.tmp 0), none, false⟩,
            ⟨(some 13), .nilCheck (.tmp 12), none, false⟩,
            ⟨(some 14), .load 1 false (.tmp 13), none, false⟩,
            ⟨(some 15), .move (.tmp 0), none, false⟩,
            ⟨(some 16), .nilCheck (.tmp 15), none, false⟩,
            ⟨(some 17), .load 1 false (.tmp 16), none, false⟩,
            ⟨(some 18), .bin .shr 143 (.tmp 17) (.const (.int .u64 7)), none, false⟩,
            ⟨(some 19), .bin .xor 143 (.tmp 14) (.tmp 18), none, false⟩,
            ⟨(some 20), .nilCheck (.tmp 12), none, false⟩,
            ⟨none, .store 1 (.tmp 20) (.tmp 19), none, false⟩])
        (.seq (.region true [⟨(some 21), .move (.tmp 0), none, false⟩,
              ⟨(some 22), .nilCheck (.tmp 21), none, false⟩,
              ⟨(some 23), .load 1 false (.tmp 22), none, false⟩,
              ⟨(some 24), .move (.tmp 0), none, false⟩,
              ⟨(some 25), .nilCheck (.tmp 24), none, false⟩,
              ⟨(some 26), .load 1 false (.tmp 25), none, false⟩,
              ⟨(some 27), .bin .shl 143 (.tmp 26) (.const (.int .u64 17)), none, false⟩,
              ⟨(some 28), .bin .xor 143 (.tmp 23) (.tmp 27), none, false⟩,
              ⟨(some 29), .nilCheck (.tmp 21), none, false⟩,
              ⟨none, .store 1 (.tmp 29) (.tmp 28), none, false⟩])
          (.seq (.region false [⟨(some 30), .move (.tmp 0), none, false⟩,
                ⟨(some 31), .nilCheck (.tmp 30), none, false⟩,
                ⟨(some 32), .load 1 false (.tmp 31), none, false⟩,
                ⟨(some 2), .move (.tmp 32), none, false⟩])
            (.ret)))))
theorem text76 : FnText Try.prog 76 [] 33 1 ac76 [(2, none)] :=
  ⟨Try.call76, follows, Try.f76, _, Try.func76, rfl, rfl, by decide, by kernel_rfl, by kernel_rfl⟩


/-- slices.choosePivotCmpFunc[patchbay/api.FieldRef] -/
def ac56 : AC :=
  .seq (.region false [⟨(some 8), .move (.const (.int .i64 0)), none, false⟩,
        ⟨(some 9), .move (.const (.int .i64 0)), none, false⟩])
    (.seq (.region false [⟨(some 15), .move (.tmp 2), none, false⟩,
          ⟨(some 16), .move (.tmp 1), none, false⟩,
          ⟨(some 17), .bin .sub 3 (.tmp 15) (.tmp 16), none, false⟩,
          ⟨(some 10), .move (.tmp 17), none, false⟩])
      (.seq (.region false [⟨(some 11), .alloc true 3 (.int .i64 0), none, false⟩])
        (.seq (.region false [⟨(some 18), .move (.tmp 1), none, false⟩,
              ⟨(some 19), .move (.tmp 10), none, false⟩,
              ⟨(some 20), .bin .quo 3 (.tmp 19) (.const (.int .i64 4)), none, false⟩,
              ⟨(some 21), .bin .mul 3 (.tmp 20) (.const (.int .i64 1)), none, false⟩,
              ⟨(some 22), .bin .add 3 (.tmp 18) (.tmp 21), none, false⟩,
              ⟨(some 12), .move (.tmp 22), none, false⟩])
          (.seq (.region false [⟨(some 23), .move (.tmp 1), none, false⟩,
                ⟨(some 24), .move (.tmp 10), none, false⟩,
                ⟨(some 25), .bin .quo 3 (.tmp 24) (.const (.int .i64 4)), none, false⟩,
                ⟨(some 26), .bin .mul 3 (.tmp 25) (.const (.int .i64 2)), none, false⟩,
                ⟨(some 27), .bin .add 3 (.tmp 23) (.tmp 26), none, false⟩,
                ⟨(some 13), .move (.tmp 27), none, false⟩])
            (.seq (.region false [⟨(some 28), .move (.tmp 1), none, false⟩,
                  ⟨(some 29), .move (.tmp 10), none, false⟩,
                  ⟨(some 30), .bin .quo 3 (.tmp 29) (.const (.int .i64 4)), none, false⟩,
                  ⟨(some 31), .bin .mul 3 (.tmp 30) (.const (.int .i64 3)), none, false⟩,
                  ⟨(some 32), .bin .add 3 (.tmp 28) (.tmp 31), none, false⟩,
                  ⟨(some 14), .move (.tmp 32), none, false⟩])
              (.seq (.seq (.region false [⟨(some 33), .move (.tmp 10), none, false⟩,
                      ⟨(some 34), .bin .geq 3 (.tmp 33) (.const (.int .i64 8)), none, false⟩])
                  (.cond (.tmp 34)
                    (.seq (.seq (.region false [⟨(some 35), .move (.tmp 10), none, false⟩,
                            ⟨(some 36), .bin .geq 3 (.tmp 35) (.const (.int .i64 50)), none, false⟩])
                        (.cond (.tmp 36)
                          (.seq (.region false [⟨(some 37), .move (.tmp 0), none, false⟩,
                                ⟨(some 38), .move (.tmp 12), none, false⟩,
                                ⟨(some 39), .move (.tmp 3), none, false⟩,
                                ⟨(some 40), .call (.func 77) [(.tmp 37), (.tmp 38), (.tmp 11), (.tmp 39)], none, false⟩,
                                ⟨(some 12), .move (.tmp 40), none, false⟩])
                            (.seq (.region false [⟨(some 41), .move (.tmp 0), none, false⟩,
                                  ⟨(some 42), .move (.tmp 13), none, false⟩,
                                  ⟨(some 43), .move (.tmp 3), none, false⟩,
                                  ⟨(some 44), .call (.func 77) [(.tmp 41), (.tmp 42), (.tmp 11), (.tmp 43)], none, false⟩,
                                  ⟨(some 13), .move (.tmp 44), none, false⟩])
                              (.region false [⟨(some 45), .move (.tmp 0), none, false⟩,
                                  ⟨(some 46), .move (.tmp 14), none, false⟩,
                                  ⟨(some 47), .move (.tmp 3), none, false⟩,
                                  ⟨(some 48), .call (.func 77) [(.tmp 45), (.tmp 46), (.tmp 11), (.tmp 47)], none, false⟩,
                                  ⟨(some 14), .move (.tmp 48), none, false⟩])))
                          (.skip)))
                      (.region false [⟨(some 49), .move (.tmp 0), none, false⟩,
                          ⟨(some 50), .move (.tmp 12), none, false⟩,
                          ⟨(some 51), .move (.tmp 13), none, false⟩,
                          ⟨(some 52), .move (.tmp 14), none, false⟩,
                          ⟨(some 53), .move (.tmp 3), none, false⟩,
                          ⟨(some 54), .call (.func 78) [(.tmp 49), (.tmp 50), (.tmp 51), (.tmp 52), (.tmp 11), (.tmp 53)], none, false⟩,
                          ⟨(some 13), .move (.tmp 54), none, false⟩]))
                    (.skip)))
                (.seq (.region false [⟨(some 55), .load 1 false (.tmp 11), none, false⟩])
                  (.block 0 (.seq (.region false [⟨(some 58), .bin .eql 3 (.tmp 55) (.const (.int .i64 0)), none, false⟩,
                          ⟨(some 57), .move (.tmp 58), none, false⟩])
                      (.cond (.tmp 57)
                        (.seq (.region false [⟨(some 59), .move (.tmp 13), none, false⟩,
                              ⟨(some 8), .move (.tmp 59), none, false⟩,
                              ⟨(some 9), .move (.const (.int .i64 1)), none, false⟩])
                          (.ret))
                        (.seq (.region false [⟨(some 61), .bin .eql 3 (.tmp 55) (.const (.int .i64 12)), none, false⟩,
                              ⟨(some 60), .move (.tmp 61), none, false⟩])
                          (.cond (.tmp 60)
                            (.seq (.region false [⟨(some 62), .move (.tmp 13), none, false⟩,
                                  ⟨(some 8), .move (.tmp 62), none, false⟩,
                                  ⟨(some 9), .move (.const (.int .i64 2)), none, false⟩])
                              (.ret))
                            (.seq (.region false [⟨(some 56), .move (.tmp 13), none, false⟩,
                                  ⟨(some 8), .move (.tmp 56), none, false⟩,
                                  ⟨(some 9), .move (.const (.int .i64 0)), none, false⟩])
                              (.ret))))))))))))))
theorem text56 : FnText Try.prog 56 [11] 63 4 ac56 [(8, none), (9, none)] :=
  ⟨Try.call56, follows, Try.f56, _, Try.func56, rfl, rfl, by decide, by kernel_rfl, by kernel_rfl⟩


/-- slices.medianAdjacentCmpFunc[patchbay/api.FieldRef] -/
def ac77 : AC :=
  .seq (.region false [⟨(some 8), .move (.const (.int .i64 0)), none, false⟩])
    (.seq (.region false [⟨(some 9), .move (.tmp 0), none, false⟩,
          ⟨(some 10), .move (.tmp 1), none, false⟩,
          ⟨(some 11), .bin .sub 3 (.tmp 10) (.const (.int .i64 1)), none, false⟩,
          ⟨(some 12), .move (.tmp 1), none, false⟩,
          ⟨(some 13), .move (.tmp 1), none, false⟩,
          ⟨(some 14), .bin .add 3 (.tmp 13) (.const (.int .i64 1)), none, false⟩,
          ⟨(some 15), .move (.tmp 2), none, false⟩,
          ⟨(some 16), .move (.tmp 3), none, false⟩,
          ⟨(some 17), .call (.func 78) [(.tmp 9), (.tmp 11), (.tmp 12), (.tmp 14), (.tmp 15), (.tmp 16)], none, false⟩,
          ⟨(some 8), .move (.tmp 17), none, false⟩])
      (.ret))
theorem text77 : FnText Try.prog 77 [] 18 4 ac77 [(8, none)] :=
  ⟨Try.call77, follows, Try.f77, _, Try.func77, rfl, rfl, by decide, by kernel_rfl, by kernel_rfl⟩


/-- slices.medianCmpFunc[patchbay/api.FieldRef] -/
def ac78 : AC :=
  .seq (.region false [⟨(some 12), .move (.const (.int .i64 0)), none, false⟩])
    (.seq (.region false [⟨(some 14), .move (.tmp 0), none, false⟩,
          ⟨(some 15), .move (.tmp 1), none, false⟩,
          ⟨(some 16), .move (.tmp 2), none, false⟩,
          ⟨(some 17), .move (.tmp 4), none, false⟩,
          ⟨(some 18), .move (.tmp 5), none, false⟩,
          ⟨(some 19), .call (.func 88) [(.tmp 14), (.tmp 15), (.tmp 16), (.tmp 17), (.tmp 18)], none, false⟩,
          ⟨(some 13), .move (.tmp 19), none, false⟩,
          ⟨(some 20), .extract (.tmp 13) 0, none, false⟩,
          ⟨(some 21), .extract (.tmp 13) 1, none, false⟩,
          ⟨(some 1), .move (.tmp 20), none, false⟩,
          ⟨(some 2), .move (.tmp 21), none, false⟩])
      (.seq (.region false [⟨(some 23), .move (.tmp 0), none, false⟩,
            ⟨(some 24), .move (.tmp 2), none, false⟩,
            ⟨(some 25), .move (.tmp 3), none, false⟩,
            ⟨(some 26), .move (.tmp 4), none, false⟩,
            ⟨(some 27), .move (.tmp 5), none, false⟩,
            ⟨(some 28), .call (.func 88) [(.tmp 23), (.tmp 24), (.tmp 25), (.tmp 26), (.tmp 27)], none, false⟩,
            ⟨(some 22), .move (.tmp 28), none, false⟩,
            ⟨(some 29), .extract (.tmp 22) 0, none, false⟩,
            ⟨(some 30), .extract (.tmp 22) 1, none, false⟩,
            ⟨(some 2), .move (.tmp 29), none, false⟩,
            ⟨(some 3), .move (.tmp 30), none, false⟩])
        (.seq (.region false [⟨(some 32), .move (.tmp 0), none, false⟩,
              ⟨(some 33), .move (.tmp 1), none, false⟩,
              ⟨(some 34), .move (.tmp 2), none, false⟩,
              ⟨(some 35), .move (.tmp 4), none, false⟩,
              ⟨(some 36), .move (.tmp 5), none, false⟩,
              ⟨(some 37), .call (.func 88) [(.tmp 32), (.tmp 33), (.tmp 34), (.tmp 35), (.tmp 36)], none, false⟩,
              ⟨(some 31), .move (.tmp 37), none, false⟩,
              ⟨(some 38), .extract (.tmp 31) 0, none, false⟩,
              ⟨(some 39), .extract (.tmp 31) 1, none, false⟩,
              ⟨(some 1), .move (.tmp 38), none, false⟩,
              ⟨(some 2), .move (.tmp 39), none, false⟩])
          (.seq (.region false [⟨(some 40), .move (.tmp 2), none, false⟩,
                ⟨(some 12), .move (.tmp 40), none, false⟩])
            (.ret)))))
theorem text78 : FnText Try.prog 78 [] 41 6 ac78 [(12, none)] :=
  ⟨Try.call78, follows, Try.f78, _, Try.func78, rfl, rfl, by decide, by kernel_rfl, by kernel_rfl⟩


/-- slices.order2CmpFunc[patchbay/api.FieldRef] -/
def ac88 : AC :=
  .seq (.region false [⟨(some 10), .move (.const (.int .i64 0)), none, false⟩,
        ⟨(some 11), .move (.const (.int .i64 0)), none, false⟩])
    (.seq (.seq (.region true [⟨(some 12), .move (.tmp 4), none, false⟩,
            ⟨(some 13), .move (.tmp 0), none, false⟩,
            ⟨(some 14), .move (.tmp 2), none, false⟩,
            ⟨(some 15), .iaddr 2 (.tmp 13) (.tmp 14), none, false⟩,
            ⟨(some 16), .load 2 true (.tmp 15), none, false⟩,
            ⟨(some 17), .move (.tmp 0), none, false⟩,
            ⟨(some 18), .move (.tmp 1), none, false⟩,
            ⟨(some 19), .iaddr 2 (.tmp 17) (.tmp 18), none, false⟩,
            ⟨(some 20), .load 2 true (.tmp 19), none, false⟩,
            ⟨(some 21), .call (.tmp 12) [(.tmp 16), (.tmp 20)], none, false⟩,
            ⟨(some 22), .bin .lss 3 (.tmp 21) (.const (.int .i64 0)), none, false⟩])
        (.cond (.tmp 22)
          (.seq (.region false [⟨(some 23), .move (.tmp 3), none, false⟩,
                ⟨(some 24), .nilCheck (.tmp 23), none, false⟩,
                ⟨(some 25), .load 1 false (.tmp 24), none, false⟩,
                ⟨(some 26), .bin .add 3 (.tmp 25) (.const (.int .i64 1)), none, false⟩,
                ⟨(some 27), .nilCheck (.tmp 23), none, false⟩,
                ⟨none, .store 1 (.tmp 27) (.tmp 26), none, false⟩])
            (.seq (.region false [⟨(some 28), .move (.tmp 2), none, false⟩,
                  ⟨(some 29), .move (.tmp 1), none, false⟩,
                  ⟨(some 10), .move (.tmp 28), none, false⟩,
                  ⟨(some 11), .move (.tmp 29), none, false⟩])
              (.ret)))
          (.skip)))
      (.seq (.region false [⟨(some 30), .move (.tmp 1), none, false⟩,
            ⟨(some 31), .move (.tmp 2), none, false⟩,
            ⟨(some 10), .move (.tmp 30), none, false⟩,
            ⟨(some 11), .move (.tmp 31), none, false⟩])
        (.ret)))
theorem text88 : FnText Try.prog 88 [] 32 5 ac88 [(10, none), (11, none)] :=
  ⟨Try.call88, follows, Try.f88, _, Try.func88, rfl, rfl, by decide, by kernel_rfl, by kernel_rfl⟩

def ac57_L1 : AC :=
  .seq (.seq (.region false [⟨(some 13), .move (.tmp 8), none, false⟩,
          ⟨(some 14), .move (.tmp 9), none, false⟩,
          ⟨(some 15), .bin .lss 3 (.tmp 13) (.tmp 14), none, false⟩])
      (.cond (.tmp 15)
        (.skip)
        (.exit 0)))
    (.block 1 (.seq (.region true [⟨(some 16), .move (.tmp 0), none, false⟩,
            ⟨(some 17), .move (.tmp 8), none, false⟩,
            ⟨(some 18), .move (.tmp 0), none, true⟩,
            ⟨(some 19), .move (.tmp 9), none, true⟩,
            ⟨(some 20), .move (.tmp 0), none, false⟩,
            ⟨(some 21), .move (.tmp 9), none, false⟩,
            ⟨(some 22), .iaddr 2 (.tmp 20) (.tmp 21), none, false⟩,
            ⟨(some 23), .load 2 true (.tmp 22), none, false⟩,
            ⟨(some 24), .move (.tmp 0), none, false⟩,
            ⟨(some 25), .move (.tmp 8), none, false⟩,
            ⟨(some 26), .iaddr 2 (.tmp 24) (.tmp 25), none, false⟩,
            ⟨(some 27), .load 2 true (.tmp 26), none, false⟩,
            ⟨(some 28), .iaddr 2 (.tmp 16) (.tmp 17), none, false⟩,
            ⟨none, .store 2 (.tmp 28) (.tmp 23), none, false⟩,
            ⟨(some 29), .iaddr 2 (.tmp 18) (.tmp 19), none, false⟩,
            ⟨none, .store 2 (.tmp 29) (.tmp 27), none, false⟩])
        (.seq (.region false [⟨(some 30), .move (.tmp 8), none, false⟩,
              ⟨(some 31), .bin .add 3 (.tmp 30) (.const (.int .i64 1)), none, false⟩,
              ⟨(some 8), .move (.tmp 31), none, false⟩])
          (.region false [⟨(some 32), .move (.tmp 9), none, false⟩,
              ⟨(some 33), .bin .sub 3 (.tmp 32) (.const (.int .i64 1)), none, false⟩,
              ⟨(some 9), .move (.tmp 33), none, false⟩]))))
/-- slices.reverseRangeCmpFunc[patchbay/api.FieldRef] -/
def ac57 : AC :=
  .seq (.region false [⟨(some 10), .move (.tmp 1), none, false⟩,
        ⟨(some 8), .move (.tmp 10), none, false⟩])
    (.seq (.region false [⟨(some 11), .move (.tmp 2), none, false⟩,
          ⟨(some 12), .bin .sub 3 (.tmp 11) (.const (.int .i64 1)), none, false⟩,
          ⟨(some 9), .move (.tmp 12), none, false⟩])
      (.block 0 (.loop ac57_L1)))
theorem text57 : FnText Try.prog 57 [] 34 4 ac57 [] :=
  ⟨Try.call57, follows, Try.f57, _, Try.func57, rfl, rfl, by decide, by kernel_rfl, by kernel_rfl⟩

def ac58_G1 : List AOper :=
  [⟨(some 23), .move (.tmp 3), (some (22, true)), false⟩,
    ⟨(some 24), .move (.tmp 0), (some (22, true)), false⟩,
    ⟨(some 25), .move (.tmp 9), (some (22, true)), false⟩,
    ⟨(some 26), .iaddr 2 (.tmp 24) (.tmp 25), (some (22, true)), false⟩,
    ⟨(some 27), .load 2 true (.tmp 26), (some (22, true)), false⟩,
    ⟨(some 28), .move (.tmp 0), (some (22, true)), false⟩,
    ⟨(some 29), .move (.tmp 9), (some (22, true)), false⟩,
    ⟨(some 30), .bin .sub 3 (.tmp 29) (.const (.int .i64 1)), (some (22, true)), false⟩,
    ⟨(some 31), .iaddr 2 (.tmp 28) (.tmp 30), (some (22, true)), false⟩,
    ⟨(some 32), .load 2 true (.tmp 31), (some (22, true)), false⟩,
    ⟨(some 33), .call (.tmp 23) [(.tmp 27), (.tmp 32)], (some (22, true)), false⟩,
    ⟨(some 34), .bin .lss 3 (.tmp 33) (.const (.int .i64 0)), (some (22, true)), false⟩,
    ⟨(some 35), .un .not (.tmp 34), (some (22, true)), false⟩,
    ⟨(some 36), .pick (.tmp 22) (.tmp 35) (.const (.bool false)), none, false⟩]
def ac58_L2 : AC :=
  .seq (.seq (.region true (⟨(some 19), .move (.tmp 9), none, false⟩ :: ⟨(some 20), .move (.tmp 2), none, false⟩ :: ⟨(some 21), .bin .lss 3 (.tmp 19) (.tmp 20), none, false⟩ :: ⟨(some 22), .move (.tmp 21), none, false⟩ :: (ac58_G1 ++ [])))
      (.cond (.tmp 36)
        (.skip)
        (.exit 2)))
    (.block 3 (.region false [⟨(some 37), .move (.tmp 9), none, false⟩,
          ⟨(some 38), .bin .add 3 (.tmp 37) (.const (.int .i64 1)), none, false⟩,
          ⟨(some 9), .move (.tmp 38), none, false⟩]))
def ac58_L3 : AC :=
  .seq (.seq (.region false [⟨(some 68), .move (.tmp 11), none, false⟩,
          ⟨(some 69), .bin .geq 3 (.tmp 68) (.const (.int .i64 1)), none, false⟩])
      (.cond (.tmp 69)
        (.skip)
        (.exit 4)))
    (.seq (.block 5 (.seq (.seq (.region true [⟨(some 72), .move (.tmp 3), none, false⟩,
                ⟨(some 73), .move (.tmp 0), none, false⟩,
                ⟨(some 74), .move (.tmp 11), none, false⟩,
                ⟨(some 75), .iaddr 2 (.tmp 73) (.tmp 74), none, false⟩,
                ⟨(some 76), .load 2 true (.tmp 75), none, false⟩,
                ⟨(some 77), .move (.tmp 0), none, false⟩,
                ⟨(some 78), .move (.tmp 11), none, false⟩,
                ⟨(some 79), .bin .sub 3 (.tmp 78) (.const (.int .i64 1)), none, false⟩,
                ⟨(some 80), .iaddr 2 (.tmp 77) (.tmp 79), none, false⟩,
                ⟨(some 81), .load 2 true (.tmp 80), none, false⟩,
                ⟨(some 82), .call (.tmp 72) [(.tmp 76), (.tmp 81)], none, false⟩,
                ⟨(some 83), .bin .lss 3 (.tmp 82) (.const (.int .i64 0)), none, false⟩,
                ⟨(some 84), .un .not (.tmp 83), none, false⟩])
            (.cond (.tmp 84)
              (.exit 4)
              (.skip)))
          (.region true [⟨(some 85), .move (.tmp 0), none, false⟩,
              ⟨(some 86), .move (.tmp 11), none, false⟩,
              ⟨(some 87), .move (.tmp 0), none, true⟩,
              ⟨(some 88), .move (.tmp 11), none, true⟩,
              ⟨(some 89), .bin .sub 3 (.tmp 88) (.const (.int .i64 1)), none, true⟩,
              ⟨(some 90), .move (.tmp 0), none, false⟩,
              ⟨(some 91), .move (.tmp 11), none, false⟩,
              ⟨(some 92), .bin .sub 3 (.tmp 91) (.const (.int .i64 1)), none, false⟩,
              ⟨(some 93), .iaddr 2 (.tmp 90) (.tmp 92), none, false⟩,
              ⟨(some 94), .load 2 true (.tmp 93), none, false⟩,
              ⟨(some 95), .move (.tmp 0), none, false⟩,
              ⟨(some 96), .move (.tmp 11), none, false⟩,
              ⟨(some 97), .iaddr 2 (.tmp 95) (.tmp 96), none, false⟩,
              ⟨(some 98), .load 2 true (.tmp 97), none, false⟩,
              ⟨(some 99), .iaddr 2 (.tmp 85) (.tmp 86), none, false⟩,
              ⟨none, .store 2 (.tmp 99) (.tmp 94), none, false⟩,
              ⟨(some 100), .iaddr 2 (.tmp 87) (.tmp 89), none, false⟩,
              ⟨none, .store 2 (.tmp 100) (.tmp 98), none, false⟩])))
      (.region false [⟨(some 70), .move (.tmp 11), none, false⟩,
          ⟨(some 71), .bin .sub 3 (.tmp 70) (.const (.int .i64 1)), none, false⟩,
          ⟨(some 11), .move (.tmp 71), none, false⟩]))
def ac58_L4 : AC :=
  .seq (.seq (.region false [⟨(some 107), .move (.tmp 12), none, false⟩,
          ⟨(some 108), .move (.tmp 2), none, false⟩,
          ⟨(some 109), .bin .lss 3 (.tmp 107) (.tmp 108), none, false⟩])
      (.cond (.tmp 109)
        (.skip)
        (.exit 6)))
    (.seq (.block 7 (.seq (.seq (.region true [⟨(some 112), .move (.tmp 3), none, false⟩,
                ⟨(some 113), .move (.tmp 0), none, false⟩,
                ⟨(some 114), .move (.tmp 12), none, false⟩,
                ⟨(some 115), .iaddr 2 (.tmp 113) (.tmp 114), none, false⟩,
                ⟨(some 116), .load 2 true (.tmp 115), none, false⟩,
                ⟨(some 117), .move (.tmp 0), none, false⟩,
                ⟨(some 118), .move (.tmp 12), none, false⟩,
                ⟨(some 119), .bin .sub 3 (.tmp 118) (.const (.int .i64 1)), none, false⟩,
                ⟨(some 120), .iaddr 2 (.tmp 117) (.tmp 119), none, false⟩,
                ⟨(some 121), .load 2 true (.tmp 120), none, false⟩,
                ⟨(some 122), .call (.tmp 112) [(.tmp 116), (.tmp 121)], none, false⟩,
                ⟨(some 123), .bin .lss 3 (.tmp 122) (.const (.int .i64 0)), none, false⟩,
                ⟨(some 124), .un .not (.tmp 123), none, false⟩])
            (.cond (.tmp 124)
              (.exit 6)
              (.skip)))
          (.region true [⟨(some 125), .move (.tmp 0), none, false⟩,
              ⟨(some 126), .move (.tmp 12), none, false⟩,
              ⟨(some 127), .move (.tmp 0), none, true⟩,
              ⟨(some 128), .move (.tmp 12), none, true⟩,
              ⟨(some 129), .bin .sub 3 (.tmp 128) (.const (.int .i64 1)), none, true⟩,
              ⟨(some 130), .move (.tmp 0), none, false⟩,
              ⟨(some 131), .move (.tmp 12), none, false⟩,
              ⟨(some 132), .bin .sub 3 (.tmp 131) (.const (.int .i64 1)), none, false⟩,
              ⟨(some 133), .iaddr 2 (.tmp 130) (.tmp 132), none, false⟩,
              ⟨(some 134), .load 2 true (.tmp 133), none, false⟩,
              ⟨(some 135), .move (.tmp 0), none, false⟩,
              ⟨(some 136), .move (.tmp 12), none, false⟩,
              ⟨(some 137), .iaddr 2 (.tmp 135) (.tmp 136), none, false⟩,
              ⟨(some 138), .load 2 true (.tmp 137), none, false⟩,
              ⟨(some 139), .iaddr 2 (.tmp 125) (.tmp 126), none, false⟩,
              ⟨none, .store 2 (.tmp 139) (.tmp 134), none, false⟩,
              ⟨(some 140), .iaddr 2 (.tmp 127) (.tmp 129), none, false⟩,
              ⟨none, .store 2 (.tmp 140) (.tmp 138), none, false⟩])))
      (.region false [⟨(some 110), .move (.tmp 12), none, false⟩,
          ⟨(some 111), .bin .add 3 (.tmp 110) (.const (.int .i64 1)), none, false⟩,
          ⟨(some 12), .move (.tmp 111), none, false⟩]))
def ac58_L1 : AC :=
  .seq (.seq (.region false [⟨(some 15), .move (.tmp 10), none, false⟩,
          ⟨(some 16), .bin .lss 3 (.tmp 15) (.const (.int .i64 5)), none, false⟩])
      (.cond (.tmp 16)
        (.skip)
        (.exit 0)))
    (.seq (.block 1 (.seq (.block 2 (.loop ac58_L2))
          (.seq (.seq (.region false [⟨(some 39), .move (.tmp 9), none, false⟩,
                  ⟨(some 40), .move (.tmp 2), none, false⟩,
                  ⟨(some 41), .bin .eql 3 (.tmp 39) (.tmp 40), none, false⟩])
              (.cond (.tmp 41)
                (.seq (.region false [⟨(some 8), .move (.const (.bool true)), none, false⟩])
                  (.ret))
                (.skip)))
            (.seq (.seq (.region false [⟨(some 42), .move (.tmp 2), none, false⟩,
                    ⟨(some 43), .move (.tmp 1), none, false⟩,
                    ⟨(some 44), .bin .sub 3 (.tmp 42) (.tmp 43), none, false⟩,
                    ⟨(some 45), .bin .lss 3 (.tmp 44) (.const (.int .i64 50)), none, false⟩])
                (.cond (.tmp 45)
                  (.seq (.region false [⟨(some 8), .move (.const (.bool false)), none, false⟩])
                    (.ret))
                  (.skip)))
              (.seq (.region true [⟨(some 46), .move (.tmp 0), none, false⟩,
                    ⟨(some 47), .move (.tmp 9), none, false⟩,
                    ⟨(some 48), .move (.tmp 0), none, true⟩,
                    ⟨(some 49), .move (.tmp 9), none, true⟩,
                    ⟨(some 50), .bin .sub 3 (.tmp 49) (.const (.int .i64 1)), none, true⟩,
                    ⟨(some 51), .move (.tmp 0), none, false⟩,
                    ⟨(some 52), .move (.tmp 9), none, false⟩,
                    ⟨(some 53), .bin .sub 3 (.tmp 52) (.const (.int .i64 1)), none, false⟩,
                    ⟨(some 54), .iaddr 2 (.tmp 51) (.tmp 53), none, false⟩,
                    ⟨(some 55), .load 2 true (.tmp 54), none, false⟩,
                    ⟨(some 56), .move (.tmp 0), none, false⟩,
                    ⟨(some 57), .move (.tmp 9), none, false⟩,
                    ⟨(some 58), .iaddr 2 (.tmp 56) (.tmp 57), none, false⟩,
                    ⟨(some 59), .load 2 true (.tmp 58), none, false⟩,
                    ⟨(some 60), .iaddr 2 (.tmp 46) (.tmp 47), none, false⟩,
                    ⟨none, .store 2 (.tmp 60) (.tmp 55), none, false⟩,
                    ⟨(some 61), .iaddr 2 (.tmp 48) (.tmp 50), none, false⟩,
                    ⟨none, .store 2 (.tmp 61) (.tmp 59), none, false⟩])
                (.seq (.seq (.region false [⟨(some 62), .move (.tmp 9), none, false⟩,
                        ⟨(some 63), .move (.tmp 1), none, false⟩,
                        ⟨(some 64), .bin .sub 3 (.tmp 62) (.tmp 63), none, false⟩,
                        ⟨(some 65), .bin .geq 3 (.tmp 64) (.const (.int .i64 2)), none, false⟩])
                    (.cond (.tmp 65)
                      (.seq (.region false [⟨(some 66), .move (.tmp 9), none, false⟩,
                            ⟨(some 67), .bin .sub 3 (.tmp 66) (.const (.int .i64 1)), none, false⟩,
                            ⟨(some 11), .move (.tmp 67), none, false⟩])
                        (.block 4 (.loop ac58_L3)))
                      (.skip)))
                  (.seq (.region false [⟨(some 101), .move (.tmp 2), none, false⟩,
                        ⟨(some 102), .move (.tmp 9), none, false⟩,
                        ⟨(some 103), .bin .sub 3 (.tmp 101) (.tmp 102), none, false⟩,
                        ⟨(some 104), .bin .geq 3 (.tmp 103) (.const (.int .i64 2)), none, false⟩])
                    (.cond (.tmp 104)
                      (.seq (.region false [⟨(some 105), .move (.tmp 9), none, false⟩,
                            ⟨(some 106), .bin .add 3 (.tmp 105) (.const (.int .i64 1)), none, false⟩,
                            ⟨(some 12), .move (.tmp 106), none, false⟩])
                        (.block 6 (.loop ac58_L4)))
                      (.skip)))))))))
      (.region false [⟨(some 17), .move (.tmp 10), none, false⟩,
          ⟨(some 18), .bin .add 3 (.tmp 17) (.const (.int .i64 1)), none, false⟩,
          ⟨(some 10), .move (.tmp 18), none, false⟩]))
/-- slices.partialInsertionSortCmpFunc[patchbay/api.FieldRef] -/
def ac58 : AC :=
  .seq (.region false [⟨(some 8), .move (.const (.bool false)), none, false⟩])
    (.seq (.region false [⟨(some 13), .move (.tmp 1), none, false⟩,
          ⟨(some 14), .bin .add 3 (.tmp 13) (.const (.int .i64 1)), none, false⟩,
          ⟨(some 9), .move (.tmp 14), none, false⟩])
      (.seq (.seq (.region false [⟨(some 10), .move (.const (.int .i64 0)), none, false⟩])
          (.block 0 (.loop ac58_L1)))
        (.seq (.region false [⟨(some 8), .move (.const (.bool false)), none, false⟩])
          (.ret))))
theorem text58 : FnText Try.prog 58 [] 141 4 ac58 [(8, none)] :=
  ⟨Try.call58, follows, Try.f58, _, Try.func58, rfl, rfl, by decide, by kernel_rfl, by kernel_rfl⟩

def ac59_G1 : List AOper :=
  [⟨(some 35), .move (.tmp 4), (some (34, true)), false⟩,
    ⟨(some 36), .move (.tmp 0), (some (34, true)), false⟩,
    ⟨(some 37), .move (.tmp 1), (some (34, true)), false⟩,
    ⟨(some 38), .iaddr 2 (.tmp 36) (.tmp 37), (some (34, true)), false⟩,
    ⟨(some 39), .load 2 true (.tmp 38), (some (34, true)), false⟩,
    ⟨(some 40), .move (.tmp 0), (some (34, true)), false⟩,
    ⟨(some 41), .move (.tmp 11), (some (34, true)), false⟩,
    ⟨(some 42), .iaddr 2 (.tmp 40) (.tmp 41), (some (34, true)), false⟩,
    ⟨(some 43), .load 2 true (.tmp 42), (some (34, true)), false⟩,
    ⟨(some 44), .call (.tmp 35) [(.tmp 39), (.tmp 43)], (some (34, true)), false⟩,
    ⟨(some 45), .bin .lss 3 (.tmp 44) (.const (.int .i64 0)), (some (34, true)), false⟩,
    ⟨(some 46), .un .not (.tmp 45), (some (34, true)), false⟩,
    ⟨(some 47), .pick (.tmp 34) (.tmp 46) (.const (.bool false)), none, false⟩]
def ac59_L2 : AC :=
  .seq (.seq (.region true (⟨(some 31), .move (.tmp 11), none, false⟩ :: ⟨(some 32), .move (.tmp 12), none, false⟩ :: ⟨(some 33), .bin .leq 3 (.tmp 31) (.tmp 32), none, false⟩ :: ⟨(some 34), .move (.tmp 33), none, false⟩ :: (ac59_G1 ++ [])))
      (.cond (.tmp 47)
        (.skip)
        (.exit 2)))
    (.block 3 (.region false [⟨(some 48), .move (.tmp 11), none, false⟩,
          ⟨(some 49), .bin .add 3 (.tmp 48) (.const (.int .i64 1)), none, false⟩,
          ⟨(some 11), .move (.tmp 49), none, false⟩]))
def ac59_G2 : List AOper :=
  [⟨(some 54), .move (.tmp 4), (some (53, true)), false⟩,
    ⟨(some 55), .move (.tmp 0), (some (53, true)), false⟩,
    ⟨(some 56), .move (.tmp 1), (some (53, true)), false⟩,
    ⟨(some 57), .iaddr 2 (.tmp 55) (.tmp 56), (some (53, true)), false⟩,
    ⟨(some 58), .load 2 true (.tmp 57), (some (53, true)), false⟩,
    ⟨(some 59), .move (.tmp 0), (some (53, true)), false⟩,
    ⟨(some 60), .move (.tmp 12), (some (53, true)), false⟩,
    ⟨(some 61), .iaddr 2 (.tmp 59) (.tmp 60), (some (53, true)), false⟩,
    ⟨(some 62), .load 2 true (.tmp 61), (some (53, true)), false⟩,
    ⟨(some 63), .call (.tmp 54) [(.tmp 58), (.tmp 62)], (some (53, true)), false⟩,
    ⟨(some 64), .bin .lss 3 (.tmp 63) (.const (.int .i64 0)), (some (53, true)), false⟩,
    ⟨(some 65), .pick (.tmp 53) (.tmp 64) (.const (.bool false)), none, false⟩]
def ac59_L3 : AC :=
  .seq (.seq (.region true (⟨(some 50), .move (.tmp 11), none, false⟩ :: ⟨(some 51), .move (.tmp 12), none, false⟩ :: ⟨(some 52), .bin .leq 3 (.tmp 50) (.tmp 51), none, false⟩ :: ⟨(some 53), .move (.tmp 52), none, false⟩ :: (ac59_G2 ++ [])))
      (.cond (.tmp 65)
        (.skip)
        (.exit 4)))
    (.block 5 (.region false [⟨(some 66), .move (.tmp 12), none, false⟩,
          ⟨(some 67), .bin .sub 3 (.tmp 66) (.const (.int .i64 1)), none, false⟩,
          ⟨(some 12), .move (.tmp 67), none, false⟩]))
def ac59_L1 : AC :=
  .block 1 (.seq (.block 2 (.loop ac59_L2))
      (.seq (.block 4 (.loop ac59_L3))
        (.seq (.seq (.region false [⟨(some 68), .move (.tmp 11), none, false⟩,
                ⟨(some 69), .move (.tmp 12), none, false⟩,
                ⟨(some 70), .bin .gtr 3 (.tmp 68) (.tmp 69), none, false⟩])
            (.cond (.tmp 70)
              (.exit 0)
              (.skip)))
          (.seq (.region true [⟨(some 71), .move (.tmp 0), none, false⟩,
                ⟨(some 72), .move (.tmp 11), none, false⟩,
                ⟨(some 73), .move (.tmp 0), none, true⟩,
                ⟨(some 74), .move (.tmp 12), none, true⟩,
                ⟨(some 75), .move (.tmp 0), none, false⟩,
                ⟨(some 76), .move (.tmp 12), none, false⟩,
                ⟨(some 77), .iaddr 2 (.tmp 75) (.tmp 76), none, false⟩,
                ⟨(some 78), .load 2 true (.tmp 77), none, false⟩,
                ⟨(some 79), .move (.tmp 0), none, false⟩,
                ⟨(some 80), .move (.tmp 11), none, false⟩,
                ⟨(some 81), .iaddr 2 (.tmp 79) (.tmp 80), none, false⟩,
                ⟨(some 82), .load 2 true (.tmp 81), none, false⟩,
                ⟨(some 83), .iaddr 2 (.tmp 71) (.tmp 72), none, false⟩,
                ⟨none, .store 2 (.tmp 83) (.tmp 78), none, false⟩,
                ⟨(some 84), .iaddr 2 (.tmp 73) (.tmp 74), none, false⟩,
                ⟨none, .store 2 (.tmp 84) (.tmp 82), none, false⟩])
            (.seq (.region false [⟨(some 85), .move (.tmp 11), none, false⟩,
                  ⟨(some 86), .bin .add 3 (.tmp 85) (.const (.int .i64 1)), none, false⟩,
                  ⟨(some 11), .move (.tmp 86), none, false⟩])
              (.region false [⟨(some 87), .move (.tmp 12), none, false⟩,
                  ⟨(some 88), .bin .sub 3 (.tmp 87) (.const (.int .i64 1)), none, false⟩,
                  ⟨(some 12), .move (.tmp 88), none, false⟩]))))))
/-- slices.partitionEqualCmpFunc[patchbay/api.FieldRef] -/
def ac59 : AC :=
  .seq (.region false [⟨(some 10), .move (.const (.int .i64 0)), none, false⟩])
    (.seq (.region true [⟨(some 13), .move (.tmp 0), none, false⟩,
          ⟨(some 14), .move (.tmp 1), none, false⟩,
          ⟨(some 15), .move (.tmp 0), none, true⟩,
          ⟨(some 16), .move (.tmp 3), none, true⟩,
          ⟨(some 17), .move (.tmp 0), none, false⟩,
          ⟨(some 18), .move (.tmp 3), none, false⟩,
          ⟨(some 19), .iaddr 2 (.tmp 17) (.tmp 18), none, false⟩,
          ⟨(some 20), .load 2 true (.tmp 19), none, false⟩,
          ⟨(some 21), .move (.tmp 0), none, false⟩,
          ⟨(some 22), .move (.tmp 1), none, false⟩,
          ⟨(some 23), .iaddr 2 (.tmp 21) (.tmp 22), none, false⟩,
          ⟨(some 24), .load 2 true (.tmp 23), none, false⟩,
          ⟨(some 25), .iaddr 2 (.tmp 13) (.tmp 14), none, false⟩,
          ⟨none, .store 2 (.tmp 25) (.tmp 20), none, false⟩,
          ⟨(some 26), .iaddr 2 (.tmp 15) (.tmp 16), none, false⟩,
          ⟨none, .store 2 (.tmp 26) (.tmp 24), none, false⟩])
      (.seq (.region false [⟨(some 27), .move (.tmp 1), none, false⟩,
            ⟨(some 28), .bin .add 3 (.tmp 27) (.const (.int .i64 1)), none, false⟩,
            ⟨(some 29), .move (.tmp 2), none, false⟩,
            ⟨(some 30), .bin .sub 3 (.tmp 29) (.const (.int .i64 1)), none, false⟩,
            ⟨(some 11), .move (.tmp 28), none, false⟩,
            ⟨(some 12), .move (.tmp 30), none, false⟩])
        (.seq (.block 0 (.loop ac59_L1))
          (.seq (.region false [⟨(some 89), .move (.tmp 11), none, false⟩,
                ⟨(some 10), .move (.tmp 89), none, false⟩])
            (.ret)))))
theorem text59 : FnText Try.prog 59 [] 90 5 ac59 [(10, none)] :=
  ⟨Try.call59, follows, Try.f59, _, Try.func59, rfl, rfl, by decide, by kernel_rfl, by kernel_rfl⟩

def ac60_G1 : List AOper :=
  [⟨(some 36), .move (.tmp 4), (some (35, true)), false⟩,
    ⟨(some 37), .move (.tmp 0), (some (35, true)), false⟩,
    ⟨(some 38), .move (.tmp 12), (some (35, true)), false⟩,
    ⟨(some 39), .iaddr 2 (.tmp 37) (.tmp 38), (some (35, true)), false⟩,
    ⟨(some 40), .load 2 true (.tmp 39), (some (35, true)), false⟩,
    ⟨(some 41), .move (.tmp 0), (some (35, true)), false⟩,
    ⟨(some 42), .move (.tmp 1), (some (35, true)), false⟩,
    ⟨(some 43), .iaddr 2 (.tmp 41) (.tmp 42), (some (35, true)), false⟩,
    ⟨(some 44), .load 2 true (.tmp 43), (some (35, true)), false⟩,
    ⟨(some 45), .call (.tmp 36) [(.tmp 40), (.tmp 44)], (some (35, true)), false⟩,
    ⟨(some 46), .bin .lss 3 (.tmp 45) (.const (.int .i64 0)), (some (35, true)), false⟩,
    ⟨(some 47), .pick (.tmp 35) (.tmp 46) (.const (.bool false)), none, false⟩]
def ac60_L1 : AC :=
  .seq (.seq (.region true (⟨(some 32), .move (.tmp 12), none, false⟩ :: ⟨(some 33), .move (.tmp 13), none, false⟩ :: ⟨(some 34), .bin .leq 3 (.tmp 32) (.tmp 33), none, false⟩ :: ⟨(some 35), .move (.tmp 34), none, false⟩ :: (ac60_G1 ++ [])))
      (.cond (.tmp 47)
        (.skip)
        (.exit 0)))
    (.block 1 (.region false [⟨(some 48), .move (.tmp 12), none, false⟩,
          ⟨(some 49), .bin .add 3 (.tmp 48) (.const (.int .i64 1)), none, false⟩,
          ⟨(some 12), .move (.tmp 49), none, false⟩]))
def ac60_G2 : List AOper :=
  [⟨(some 54), .move (.tmp 4), (some (53, true)), false⟩,
    ⟨(some 55), .move (.tmp 0), (some (53, true)), false⟩,
    ⟨(some 56), .move (.tmp 13), (some (53, true)), false⟩,
    ⟨(some 57), .iaddr 2 (.tmp 55) (.tmp 56), (some (53, true)), false⟩,
    ⟨(some 58), .load 2 true (.tmp 57), (some (53, true)), false⟩,
    ⟨(some 59), .move (.tmp 0), (some (53, true)), false⟩,
    ⟨(some 60), .move (.tmp 1), (some (53, true)), false⟩,
    ⟨(some 61), .iaddr 2 (.tmp 59) (.tmp 60), (some (53, true)), false⟩,
    ⟨(some 62), .load 2 true (.tmp 61), (some (53, true)), false⟩,
    ⟨(some 63), .call (.tmp 54) [(.tmp 58), (.tmp 62)], (some (53, true)), false⟩,
    ⟨(some 64), .bin .lss 3 (.tmp 63) (.const (.int .i64 0)), (some (53, true)), false⟩,
    ⟨(some 65), .un .not (.tmp 64), (some (53, true)), false⟩,
    ⟨(some 66), .pick (.tmp 53) (.tmp 65) (.const (.bool false)), none, false⟩]
def ac60_L2 : AC :=
  .seq (.seq (.region true (⟨(some 50), .move (.tmp 12), none, false⟩ :: ⟨(some 51), .move (.tmp 13), none, false⟩ :: ⟨(some 52), .bin .leq 3 (.tmp 50) (.tmp 51), none, false⟩ :: ⟨(some 53), .move (.tmp 52), none, false⟩ :: (ac60_G2 ++ [])))
      (.cond (.tmp 66)
        (.skip)
        (.exit 2)))
    (.block 3 (.region false [⟨(some 67), .move (.tmp 13), none, false⟩,
          ⟨(some 68), .bin .sub 3 (.tmp 67) (.const (.int .i64 1)), none, false⟩,
          ⟨(some 13), .move (.tmp 68), none, false⟩]))
def ac60_G3 : List AOper :=
  [⟨(some 109), .move (.tmp 4), (some (108, true)), false⟩,
    ⟨(some 110), .move (.tmp 0), (some (108, true)), false⟩,
    ⟨(some 111), .move (.tmp 12), (some (108, true)), false⟩,
    ⟨(some 112), .iaddr 2 (.tmp 110) (.tmp 111), (some (108, true)), false⟩,
    ⟨(some 113), .load 2 true (.tmp 112), (some (108, true)), false⟩,
    ⟨(some 114), .move (.tmp 0), (some (108, true)), false⟩,
    ⟨(some 115), .move (.tmp 1), (some (108, true)), false⟩,
    ⟨(some 116), .iaddr 2 (.tmp 114) (.tmp 115), (some (108, true)), false⟩,
    ⟨(some 117), .load 2 true (.tmp 116), (some (108, true)), false⟩,
    ⟨(some 118), .call (.tmp 109) [(.tmp 113), (.tmp 117)], (some (108, true)), false⟩,
    ⟨(some 119), .bin .lss 3 (.tmp 118) (.const (.int .i64 0)), (some (108, true)), false⟩,
    ⟨(some 120), .pick (.tmp 108) (.tmp 119) (.const (.bool false)), none, false⟩]
def ac60_L4 : AC :=
  .seq (.seq (.region true (⟨(some 105), .move (.tmp 12), none, false⟩ :: ⟨(some 106), .move (.tmp 13), none, false⟩ :: ⟨(some 107), .bin .leq 3 (.tmp 105) (.tmp 106), none, false⟩ :: ⟨(some 108), .move (.tmp 107), none, false⟩ :: (ac60_G3 ++ [])))
      (.cond (.tmp 120)
        (.skip)
        (.exit 6)))
    (.block 7 (.region false [⟨(some 121), .move (.tmp 12), none, false⟩,
          ⟨(some 122), .bin .add 3 (.tmp 121) (.const (.int .i64 1)), none, false⟩,
          ⟨(some 12), .move (.tmp 122), none, false⟩]))
def ac60_G4 : List AOper :=
  [⟨(some 127), .move (.tmp 4), (some (126, true)), false⟩,
    ⟨(some 128), .move (.tmp 0), (some (126, true)), false⟩,
    ⟨(some 129), .move (.tmp 13), (some (126, true)), false⟩,
    ⟨(some 130), .iaddr 2 (.tmp 128) (.tmp 129), (some (126, true)), false⟩,
    ⟨(some 131), .load 2 true (.tmp 130), (some (126, true)), false⟩,
    ⟨(some 132), .move (.tmp 0), (some (126, true)), false⟩,
    ⟨(some 133), .move (.tmp 1), (some (126, true)), false⟩,
    ⟨(some 134), .iaddr 2 (.tmp 132) (.tmp 133), (some (126, true)), false⟩,
    ⟨(some 135), .load 2 true (.tmp 134), (some (126, true)), false⟩,
    ⟨(some 136), .call (.tmp 127) [(.tmp 131), (.tmp 135)], (some (126, true)), false⟩,
    ⟨(some 137), .bin .lss 3 (.tmp 136) (.const (.int .i64 0)), (some (126, true)), false⟩,
    ⟨(some 138), .un .not (.tmp 137), (some (126, true)), false⟩,
    ⟨(some 139), .pick (.tmp 126) (.tmp 138) (.const (.bool false)), none, false⟩]
def ac60_L5 : AC :=
  .seq (.seq (.region true (⟨(some 123), .move (.tmp 12), none, false⟩ :: ⟨(some 124), .move (.tmp 13), none, false⟩ :: ⟨(some 125), .bin .leq 3 (.tmp 123) (.tmp 124), none, false⟩ :: ⟨(some 126), .move (.tmp 125), none, false⟩ :: (ac60_G4 ++ [])))
      (.cond (.tmp 139)
        (.skip)
        (.exit 8)))
    (.block 9 (.region false [⟨(some 140), .move (.tmp 13), none, false⟩,
          ⟨(some 141), .bin .sub 3 (.tmp 140) (.const (.int .i64 1)), none, false⟩,
          ⟨(some 13), .move (.tmp 141), none, false⟩]))
def ac60_L3 : AC :=
  .block 5 (.seq (.block 6 (.loop ac60_L4))
      (.seq (.block 8 (.loop ac60_L5))
        (.seq (.seq (.region false [⟨(some 142), .move (.tmp 12), none, false⟩,
                ⟨(some 143), .move (.tmp 13), none, false⟩,
                ⟨(some 144), .bin .gtr 3 (.tmp 142) (.tmp 143), none, false⟩])
            (.cond (.tmp 144)
              (.exit 4)
              (.skip)))
          (.seq (.region true [⟨(some 145), .move (.tmp 0), none, false⟩,
                ⟨(some 146), .move (.tmp 12), none, false⟩,
                ⟨(some 147), .move (.tmp 0), none, true⟩,
                ⟨(some 148), .move (.tmp 13), none, true⟩,
                ⟨(some 149), .move (.tmp 0), none, false⟩,
                ⟨(some 150), .move (.tmp 13), none, false⟩,
                ⟨(some 151), .iaddr 2 (.tmp 149) (.tmp 150), none, false⟩,
                ⟨(some 152), .load 2 true (.tmp 151), none, false⟩,
                ⟨(some 153), .move (.tmp 0), none, false⟩,
                ⟨(some 154), .move (.tmp 12), none, false⟩,
                ⟨(some 155), .iaddr 2 (.tmp 153) (.tmp 154), none, false⟩,
                ⟨(some 156), .load 2 true (.tmp 155), none, false⟩,
                ⟨(some 157), .iaddr 2 (.tmp 145) (.tmp 146), none, false⟩,
                ⟨none, .store 2 (.tmp 157) (.tmp 152), none, false⟩,
                ⟨(some 158), .iaddr 2 (.tmp 147) (.tmp 148), none, false⟩,
                ⟨none, .store 2 (.tmp 158) (.tmp 156), none, false⟩])
            (.seq (.region false [⟨(some 159), .move (.tmp 12), none, false⟩,
                  ⟨(some 160), .bin .add 3 (.tmp 159) (.const (.int .i64 1)), none, false⟩,
                  ⟨(some 12), .move (.tmp 160), none, false⟩])
              (.region false [⟨(some 161), .move (.tmp 13), none, false⟩,
                  ⟨(some 162), .bin .sub 3 (.tmp 161) (.const (.int .i64 1)), none, false⟩,
                  ⟨(some 13), .move (.tmp 162), none, false⟩]))))))
/-- slices.partitionCmpFunc[patchbay/api.FieldRef] -/
def ac60 : AC :=
  .seq (.region false [⟨(some 10), .move (.const (.int .i64 0)), none, false⟩,
        ⟨(some 11), .move (.const (.bool false)), none, false⟩])
    (.seq (.region true [⟨(some 14), .move (.tmp 0), none, false⟩,
          ⟨(some 15), .move (.tmp 1), none, false⟩,
          ⟨(some 16), .move (.tmp 0), none, true⟩,
          ⟨(some 17), .move (.tmp 3), none, true⟩,
          ⟨(some 18), .move (.tmp 0), none, false⟩,
          ⟨(some 19), .move (.tmp 3), none, false⟩,
          ⟨(some 20), .iaddr 2 (.tmp 18) (.tmp 19), none, false⟩,
          ⟨(some 21), .load 2 true (.tmp 20), none, false⟩,
          ⟨(some 22), .move (.tmp 0), none, false⟩,
          ⟨(some 23), .move (.tmp 1), none, false⟩,
          ⟨(some 24), .iaddr 2 (.tmp 22) (.tmp 23), none, false⟩,
          ⟨(some 25), .load 2 true (.tmp 24), none, false⟩,
          ⟨(some 26), .iaddr 2 (.tmp 14) (.tmp 15), none, false⟩,
          ⟨none, .store 2 (.tmp 26) (.tmp 21), none, false⟩,
          ⟨(some 27), .iaddr 2 (.tmp 16) (.tmp 17), none, false⟩,
          ⟨none, .store 2 (.tmp 27) (.tmp 25), none, false⟩])
      (.seq (.region false [⟨(some 28), .move (.tmp 1), none, false⟩,
            ⟨(some 29), .bin .add 3 (.tmp 28) (.const (.int .i64 1)), none, false⟩,
            ⟨(some 30), .move (.tmp 2), none, false⟩,
            ⟨(some 31), .bin .sub 3 (.tmp 30) (.const (.int .i64 1)), none, false⟩,
            ⟨(some 12), .move (.tmp 29), none, false⟩,
            ⟨(some 13), .move (.tmp 31), none, false⟩])
        (.seq (.block 0 (.loop ac60_L1))
          (.seq (.block 2 (.loop ac60_L2))
            (.seq (.seq (.region false [⟨(some 69), .move (.tmp 12), none, false⟩,
                    ⟨(some 70), .move (.tmp 13), none, false⟩,
                    ⟨(some 71), .bin .gtr 3 (.tmp 69) (.tmp 70), none, false⟩])
                (.cond (.tmp 71)
                  (.seq (.region true [⟨(some 72), .move (.tmp 0), none, false⟩,
                        ⟨(some 73), .move (.tmp 13), none, false⟩,
                        ⟨(some 74), .move (.tmp 0), none, true⟩,
                        ⟨(some 75), .move (.tmp 1), none, true⟩,
                        ⟨(some 76), .move (.tmp 0), none, false⟩,
                        ⟨(some 77), .move (.tmp 1), none, false⟩,
                        ⟨(some 78), .iaddr 2 (.tmp 76) (.tmp 77), none, false⟩,
                        ⟨(some 79), .load 2 true (.tmp 78), none, false⟩,
                        ⟨(some 80), .move (.tmp 0), none, false⟩,
                        ⟨(some 81), .move (.tmp 13), none, false⟩,
                        ⟨(some 82), .iaddr 2 (.tmp 80) (.tmp 81), none, false⟩,
                        ⟨(some 83), .load 2 true (.tmp 82), none, false⟩,
                        ⟨(some 84), .iaddr 2 (.tmp 72) (.tmp 73), none, false⟩,
                        ⟨none, .store 2 (.tmp 84) (.tmp 79), none, false⟩,
                        ⟨(some 85), .iaddr 2 (.tmp 74) (.tmp 75), none, false⟩,
                        ⟨none, .store 2 (.tmp 85) (.tmp 83), none, false⟩])
                    (.seq (.region false [⟨(some 86), .move (.tmp 13), none, false⟩,
                          ⟨(some 10), .move (.tmp 86), none, false⟩,
                          ⟨(some 11), .move (.const (.bool true)), none, false⟩])
                      (.ret)))
                  (.skip)))
              (.seq (.region true [⟨(some 87), .move (.tmp 0), none, false⟩,
                    ⟨(some 88), .move (.tmp 12), none, false⟩,
                    ⟨(some 89), .move (.tmp 0), none, true⟩,
                    ⟨(some 90), .move (.tmp 13), none, true⟩,
                    ⟨(some 91), .move (.tmp 0), none, false⟩,
                    ⟨(some 92), .move (.tmp 13), none, false⟩,
                    ⟨(some 93), .iaddr 2 (.tmp 91) (.tmp 92), none, false⟩,
                    ⟨(some 94), .load 2 true (.tmp 93), none, false⟩,
                    ⟨(some 95), .move (.tmp 0), none, false⟩,
                    ⟨(some 96), .move (.tmp 12), none, false⟩,
                    ⟨(some 97), .iaddr 2 (.tmp 95) (.tmp 96), none, false⟩,
                    ⟨(some 98), .load 2 true (.tmp 97), none, false⟩,
                    ⟨(some 99), .iaddr 2 (.tmp 87) (.tmp 88), none, false⟩,
                    ⟨none, .store 2 (.tmp 99) (.tmp 94), none, false⟩,
                    ⟨(some 100), .iaddr 2 (.tmp 89) (.tmp 90), none, false⟩,
                    ⟨none, .store 2 (.tmp 100) (.tmp 98), none, false⟩])
                (.seq (.region false [⟨(some 101), .move (.tmp 12), none, false⟩,
                      ⟨(some 102), .bin .add 3 (.tmp 101) (.const (.int .i64 1)), none, false⟩,
                      ⟨(some 12), .move (.tmp 102), none, false⟩])
                  (.seq (.region false [⟨(some 103), .move (.tmp 13), none, false⟩,
                        ⟨(some 104), .bin .sub 3 (.tmp 103) (.const (.int .i64 1)), none, false⟩,
                        ⟨(some 13), .move (.tmp 104), none, false⟩])
                    (.seq (.block 4 (.loop ac60_L3))
                      (.seq (.region true [⟨(some 163), .move (.tmp 0), none, false⟩,
                            ⟨(some 164), .move (.tmp 13), none, false⟩,
                            ⟨(some 165), .move (.tmp 0), none, true⟩,
                            ⟨(some 166), .move (.tmp 1), none, true⟩,
                            ⟨(some 167), .move (.tmp 0), none, false⟩,
                            ⟨(some 168), .move (.tmp 1), none, false⟩,
                            ⟨(some 169), .iaddr 2 (.tmp 167) (.tmp 168), none, false⟩,
                            ⟨(some 170), .load 2 true (.tmp 169), none, false⟩,
                            ⟨(some 171), .move (.tmp 0), none, false⟩,
                            ⟨(some 172), .move (.tmp 13), none, false⟩,
                            ⟨(some 173), .iaddr 2 (.tmp 171) (.tmp 172), none, false⟩,
                            ⟨(some 174), .load 2 true (.tmp 173), none, false⟩,
                            ⟨(some 175), .iaddr 2 (.tmp 163) (.tmp 164), none, false⟩,
                            ⟨none, .store 2 (.tmp 175) (.tmp 170), none, false⟩,
                            ⟨(some 176), .iaddr 2 (.tmp 165) (.tmp 166), none, false⟩,
                            ⟨none, .store 2 (.tmp 176) (.tmp 174), none, false⟩])
                        (.seq (.region false [⟨(some 177), .move (.tmp 13), none, false⟩,
                              ⟨(some 10), .move (.tmp 177), none, false⟩,
                              ⟨(some 11), .move (.const (.bool false)), none, false⟩])
                          (.ret))))))))))))
theorem text60 : FnText Try.prog 60 [] 178 5 ac60 [(10, none), (11, none)] :=
  ⟨Try.call60, follows, Try.f60, _, Try.func60, rfl, rfl, by decide, by kernel_rfl, by kernel_rfl⟩


/-- patchbay/expr.Fields$1 -/
def ac36 : AC :=
  .seq (.region false [⟨(some 2), .box false 39 (.tmp 0), none, false⟩,
        ⟨(some 3), .box false 39 (.tmp 1), none, false⟩,
        ⟨(some 4), .move (.const (.int .i64 0)), none, false⟩])
    (.seq (.region true [⟨(some 5), .faddr 0 1 false (.tmp 2), none, false⟩,
          ⟨(some 6), .load 1 false (.tmp 5), none, false⟩,
          ⟨(some 7), .faddr 0 1 false (.tmp 3), none, false⟩,
          ⟨(some 8), .load 1 false (.tmp 7), none, false⟩,
          ⟨(some 9), .call (.func 38) [(.tmp 6), (.tmp 8)], none, false⟩,
          ⟨(some 10), .faddr 1 1 false (.tmp 2), none, false⟩,
          ⟨(some 11), .load 1 false (.tmp 10), none, false⟩,
          ⟨(some 12), .faddr 1 1 false (.tmp 3), none, false⟩,
          ⟨(some 13), .load 1 false (.tmp 12), none, false⟩,
          ⟨(some 14), .call (.func 38) [(.tmp 11), (.tmp 13)], none, false⟩,
          ⟨(some 15), .bslice false 3 1 false [(.tmp 9), (.tmp 14)], none, false⟩,
          ⟨(some 16), .call (.func 37) [(.tmp 15)], none, false⟩,
          ⟨(some 4), .move (.tmp 16), none, false⟩])
      (.ret))
theorem text36 : FnText Try.prog 36 [] 17 2 ac36 [(4, none)] :=
  ⟨Try.call36, follows, Try.f36, _, Try.func36, rfl, rfl, by decide, by kernel_rfl, by kernel_rfl⟩


/-- cmp.Compare[int] -/
def ac38 : AC :=
  .seq (.region false [⟨(some 4), .move (.const (.int .i64 0)), none, false⟩])
    (.seq (.region false [⟨(some 7), .move (.tmp 0), none, false⟩,
          ⟨(some 8), .call (.func 49) [(.tmp 7)], none, false⟩,
          ⟨(some 5), .move (.tmp 8), none, false⟩])
      (.seq (.region false [⟨(some 9), .move (.tmp 1), none, false⟩,
            ⟨(some 10), .call (.func 49) [(.tmp 9)], none, false⟩,
            ⟨(some 6), .move (.tmp 10), none, false⟩])
        (.seq (.seq (.region false [⟨(some 11), .move (.tmp 5), none, false⟩])
            (.cond (.tmp 11)
              (.seq (.seq (.region false [⟨(some 12), .move (.tmp 6), none, false⟩])
                  (.cond (.tmp 12)
                    (.seq (.region false [⟨(some 4), .move (.const (.int .i64 0)), none, false⟩])
                      (.ret))
                    (.skip)))
                (.seq (.region false [⟨(some 4), .move (.const (.int .i64 (-1))), none, false⟩])
                  (.ret)))
              (.skip)))
          (.seq (.seq (.region false [⟨(some 13), .move (.tmp 6), none, false⟩])
              (.cond (.tmp 13)
                (.seq (.region false [⟨(some 4), .move (.const (.int .i64 1)), none, false⟩])
                  (.ret))
                (.skip)))
            (.seq (.seq (.region false [⟨(some 14), .move (.tmp 0), none, false⟩,
                    ⟨(some 15), .move (.tmp 1), none, false⟩,
                    ⟨(some 16), .bin .lss 3 (.tmp 14) (.tmp 15), none, false⟩])
                (.cond (.tmp 16)
                  (.seq (.region false [⟨(some 4), .move (.const (.int .i64 (-1))), none, false⟩])
                    (.ret))
                  (.skip)))
              (.seq (.seq (.region false [⟨(some 17), .move (.tmp 0), none, false⟩,
                      ⟨(some 18), .move (.tmp 1), none, false⟩,
                      ⟨(some 19), .bin .gtr 3 (.tmp 17) (.tmp 18), none, false⟩])
                  (.cond (.tmp 19)
                    (.seq (.region false [⟨(some 4), .move (.const (.int .i64 1)), none, false⟩])
                      (.ret))
                    (.skip)))
                (.seq (.region false [⟨(some 4), .move (.const (.int .i64 0)), none, false⟩])
                  (.ret))))))))
theorem text38 : FnText Try.prog 38 [] 20 2 ac38 [(4, none)] :=
  ⟨Try.call38, follows, Try.f38, _, Try.func38, rfl, rfl, by decide, by kernel_rfl, by kernel_rfl⟩


/-- cmp.isNaN[int] -/
def ac49 : AC :=
  .seq (.region false [⟨(some 2), .move (.const (.bool false)), none, false⟩])
    (.seq (.region false [⟨(some 3), .move (.tmp 0), none, false⟩,
          ⟨(some 4), .move (.tmp 0), none, false⟩,
          ⟨(some 5), .bin .neq 3 (.tmp 3) (.tmp 4), none, false⟩,
          ⟨(some 2), .move (.tmp 5), none, false⟩])
      (.ret))
theorem text49 : FnText Try.prog 49 [] 6 1 ac49 [(2, none)] :=
  ⟨Try.call49, follows, Try.f49, _, Try.func49, rfl, rfl, by decide, by kernel_rfl, by kernel_rfl⟩

def ac37_L1 : AC :=
  .seq (.region false [⟨(some 9), .bin .lss 3 (.tmp 8) (.tmp 7), none, false⟩])
    (.seq (.cond (.tmp 9)
        (.skip)
        (.exit 0))
      (.seq (.block 1 (.seq (.region false [⟨(some 10), .iaddr 1 (.tmp 6) (.tmp 8), none, false⟩,
                ⟨(some 11), .load 1 false (.tmp 10), none, false⟩,
                ⟨(some 5), .move (.tmp 11), none, false⟩])
            (.seq (.region false [⟨(some 12), .move (.tmp 5), none, false⟩,
                  ⟨(some 13), .move (.tmp 3), none, false⟩,
                  ⟨(some 14), .bin .neq 3 (.tmp 12) (.tmp 13), none, false⟩])
              (.cond (.tmp 14)
                (.seq (.region false [⟨(some 15), .move (.tmp 5), none, false⟩,
                      ⟨(some 2), .move (.tmp 15), none, false⟩])
                  (.ret))
                (.skip)))))
        (.region false [⟨(some 16), .bin .add 3 (.tmp 8) (.const (.int .i64 1)), none, false⟩,
            ⟨(some 8), .move (.tmp 16), none, false⟩])))
/-- cmp.Or[int] -/
def ac37 : AC :=
  .seq (.region false [⟨(some 2), .move (.const (.int .i64 0)), none, false⟩])
    (.seq (.region false [⟨(some 3), .move (.const (.int .i64 0)), none, false⟩])
      (.seq (.seq (.region false [⟨(some 6), .move (.tmp 0), none, false⟩,
              ⟨(some 7), .bi .len [29].toArray 3 [(.tmp 6)], none, false⟩,
              ⟨(some 8), .move (.const (.int .i64 0)), none, false⟩])
          (.block 0 (.loop ac37_L1)))
        (.seq (.region false [⟨(some 17), .move (.tmp 3), none, false⟩,
              ⟨(some 2), .move (.tmp 17), none, false⟩])
          (.ret))))
theorem text37 : FnText Try.prog 37 [] 18 1 ac37 [(2, none)] :=
  ⟨Try.call37, follows, Try.f37, _, Try.func37, rfl, rfl, by decide, by kernel_rfl, by kernel_rfl⟩

def ac39_L2 : AC :=
  .seq (.seq (.region false [⟨(some 29), .move (.tmp 5), none, false⟩,
          ⟨(some 30), .move (.tmp 4), none, false⟩,
          ⟨(some 31), .bi .len [82].toArray 3 [(.tmp 30)], none, false⟩,
          ⟨(some 32), .bin .lss 3 (.tmp 29) (.tmp 31), none, false⟩])
      (.cond (.tmp 32)
        (.skip)
        (.exit 2)))
    (.seq (.block 3 (.seq (.region true [⟨(some 35), .move (.tmp 4), none, false⟩,
              ⟨(some 36), .move (.tmp 5), none, false⟩,
              ⟨(some 37), .iaddr 2 (.tmp 35) (.tmp 36), none, false⟩,
              ⟨(some 38), .load 2 true (.tmp 37), none, false⟩,
              ⟨(some 39), .move (.tmp 4), none, false⟩,
              ⟨(some 40), .move (.tmp 5), none, false⟩,
              ⟨(some 41), .bin .sub 3 (.tmp 40) (.const (.int .i64 1)), none, false⟩,
              ⟨(some 42), .iaddr 2 (.tmp 39) (.tmp 41), none, false⟩,
              ⟨(some 43), .load 2 true (.tmp 42), none, false⟩,
              ⟨(some 44), .bin .neq 39 (.tmp 38) (.tmp 43), none, false⟩])
          (.cond (.tmp 44)
            (.seq (.region false [⟨(some 45), .move (.tmp 0), none, false⟩,
                  ⟨(some 46), .move (.tmp 3), none, false⟩,
                  ⟨(some 47), .move (.tmp 4), none, false⟩,
                  ⟨(some 48), .move (.tmp 5), none, false⟩,
                  ⟨(some 49), .iaddr 2 (.tmp 47) (.tmp 48), none, false⟩,
                  ⟨(some 50), .load 2 true (.tmp 49), none, false⟩,
                  ⟨(some 51), .iaddr 2 (.tmp 45) (.tmp 46), none, false⟩,
                  ⟨none, .store 2 (.tmp 51) (.tmp 50), none, false⟩])
              (.region false [⟨(some 52), .move (.tmp 3), none, false⟩,
                  ⟨(some 53), .bin .add 3 (.tmp 52) (.const (.int .i64 1)), none, false⟩,
                  ⟨(some 3), .move (.tmp 53), none, false⟩]))
            (.skip))))
      (.region false [⟨(some 33), .move (.tmp 5), none, false⟩,
          ⟨(some 34), .bin .add 3 (.tmp 33) (.const (.int .i64 1)), none, false⟩,
          ⟨(some 5), .move (.tmp 34), none, false⟩]))
def ac39_L1 : AC :=
  .seq (.seq (.region false [⟨(some 10), .move (.tmp 3), none, false⟩,
          ⟨(some 11), .move (.tmp 0), none, false⟩,
          ⟨(some 12), .bi .len [82].toArray 3 [(.tmp 11)], none, false⟩,
          ⟨(some 13), .bin .lss 3 (.tmp 10) (.tmp 12), none, false⟩])
      (.cond (.tmp 13)
        (.skip)
        (.exit 0)))
    (.seq (.block 1 (.seq (.region true [⟨(some 16), .move (.tmp 0), none, false⟩,
              ⟨(some 17), .move (.tmp 3), none, false⟩,
              ⟨(some 18), .iaddr 2 (.tmp 16) (.tmp 17), none, false⟩,
              ⟨(some 19), .load 2 true (.tmp 18), none, false⟩,
              ⟨(some 20), .move (.tmp 0), none, false⟩,
              ⟨(some 21), .move (.tmp 3), none, false⟩,
              ⟨(some 22), .bin .sub 3 (.tmp 21) (.const (.int .i64 1)), none, false⟩,
              ⟨(some 23), .iaddr 2 (.tmp 20) (.tmp 22), none, false⟩,
              ⟨(some 24), .load 2 true (.tmp 23), none, false⟩,
              ⟨(some 25), .bin .eql 39 (.tmp 19) (.tmp 24), none, false⟩])
          (.cond (.tmp 25)
            (.seq (.region false [⟨(some 26), .move (.tmp 0), none, false⟩,
                  ⟨(some 27), .move (.tmp 3), none, false⟩,
                  ⟨(some 28), .slice 82 2 (.tmp 26) (some (.tmp 27)) none none, none, false⟩,
                  ⟨(some 4), .move (.tmp 28), none, false⟩])
              (.seq (.seq (.region false [⟨(some 5), .move (.const (.int .i64 1)), none, false⟩])
                  (.block 2 (.loop ac39_L2)))
                (.seq (.region false [⟨(some 54), .move (.tmp 0), none, false⟩,
                      ⟨(some 55), .move (.tmp 3), none, false⟩,
                      ⟨(some 56), .slice 82 2 (.tmp 54) (some (.tmp 55)) none none, none, false⟩,
                      ⟨none, .copy 0 0 0 (.const (.bool false)) (.const (.bool false)), none, false⟩])
                  (.seq (.region false [⟨(some 57), .move (.tmp 0), none, false⟩,
                        ⟨(some 58), .move (.tmp 3), none, false⟩,
                        ⟨(some 59), .slice 82 2 (.tmp 57) none (some (.tmp 58)) none, none, false⟩,
                        ⟨(some 2), .move (.tmp 59), none, false⟩])
                    (.ret)))))
            (.skip))))
      (.region false [⟨(some 14), .move (.tmp 3), none, false⟩,
          ⟨(some 15), .bin .add 3 (.tmp 14) (.const (.int .i64 1)), none, false⟩,
          ⟨(some 3), .move (.tmp 15), none, false⟩]))
/-- slices.Compact[[]patchbay/api.FieldRef,patchbay/api.FieldRef] -/
def ac39 : AC :=
  .seq (.region false [⟨(some 2), .move (.const (.slice none 0 0)), none, false⟩])
    (.seq (.seq (.region false [⟨(some 6), .move (.tmp 0), none, false⟩,
            ⟨(some 7), .bi .len [82].toArray 3 [(.tmp 6)], none, false⟩,
            ⟨(some 8), .bin .lss 3 (.tmp 7) (.const (.int .i64 2)), none, false⟩])
        (.cond (.tmp 8)
          (.seq (.region false [⟨(some 9), .move (.tmp 0), none, false⟩,
                ⟨(some 2), .move (.tmp 9), none, false⟩])
            (.ret))
          (.skip)))
      (.seq (.seq (.region false [⟨(some 3), .move (.const (.int .i64 1)), none, false⟩])
          (.block 0 (.loop ac39_L1)))
        (.seq (.region false [⟨(some 60), .move (.tmp 0), none, false⟩,
              ⟨(some 2), .move (.tmp 60), none, false⟩])
          (.ret))))
theorem text39 : FnText Try.prog 39 [] 61 1 ac39 [(2, none)] :=
  ⟨Try.call39, follows, Try.f39, _, Try.func39, rfl, rfl, by decide, by kernel_rfl, by kernel_rfl⟩

def ac25_L1 : AC :=
  .seq (.region false [⟨(some 9), .bin .lss 3 (.tmp 8) (.tmp 7), none, false⟩])
    (.seq (.cond (.tmp 9)
        (.skip)
        (.exit 0))
      (.seq (.block 1 (.seq (.region false [⟨(some 10), .iaddr 3 (.tmp 6) (.tmp 8), none, false⟩,
                ⟨(some 11), .load 3 true (.tmp 10), none, false⟩,
                ⟨(some 5), .alloc true 60 (.agg [(.int .i64 0), (.int .i64 0), (.int .i64 0)].toArray), none, false⟩,
                ⟨none, .store 3 (.tmp 5) (.tmp 11), none, false⟩])
            (.seq (.region false [⟨(some 12), .faddr 0 1 false (.tmp 5), none, false⟩,
                  ⟨(some 13), .load 1 false (.tmp 12), none, false⟩,
                  ⟨(some 14), .bin .eql 3 (.tmp 13) (.const (.int .i64 4)), none, false⟩])
              (.cond (.tmp 14)
                (.region false [⟨(some 15), .move (.tmp 3), none, false⟩,
                    ⟨(some 16), .faddr 1 1 false (.tmp 5), none, false⟩,
                    ⟨(some 17), .load 1 false (.tmp 16), none, false⟩,
                    ⟨(some 18), .bslice false 3 1 false [(.tmp 17)], none, false⟩,
                    ⟨(some 19), .append 29 3 1 8 (.tmp 15) (.tmp 18), none, false⟩,
                    ⟨(some 3), .move (.tmp 19), none, false⟩])
                (.skip)))))
        (.region false [⟨(some 20), .bin .add 3 (.tmp 8) (.const (.int .i64 1)), none, false⟩,
            ⟨(some 8), .move (.tmp 20), none, false⟩])))
/-- patchbay/expr.Headers -/
def ac25 : AC :=
  .seq (.region false [⟨(some 2), .move (.const (.slice none 0 0)), none, false⟩])
    (.seq (.region false [⟨(some 3), .move (.const (.slice none 0 0)), none, false⟩])
      (.seq (.seq (.region false [⟨(some 6), .move (.tmp 0), none, false⟩,
              ⟨(some 7), .bi .len [61].toArray 3 [(.tmp 6)], none, false⟩,
              ⟨(some 8), .move (.const (.int .i64 0)), none, false⟩])
          (.block 0 (.loop ac25_L1)))
        (.seq (.region false [⟨(some 21), .move (.tmp 3), none, false⟩,
              ⟨(some 22), .call (.func 40) [(.tmp 21)], none, false⟩])
          (.seq (.region false [⟨(some 23), .move (.tmp 3), none, false⟩,
                ⟨(some 24), .call (.func 41) [(.tmp 23)], none, false⟩,
                ⟨(some 2), .move (.tmp 24), none, false⟩])
            (.ret)))))
theorem text25 : FnText Try.prog 25 [5] 25 1 ac25 [(2, none)] :=
  ⟨Try.call25, follows, Try.f25, _, Try.func25, rfl, rfl, by decide, by kernel_rfl, by kernel_rfl⟩


/-- slices.Sort[[]int,int] -/
def ac40 : AC :=
  .seq (.region false [⟨(some 3), .move (.tmp 0), none, false⟩,
        ⟨(some 4), .bi .len [29].toArray 3 [(.tmp 3)], none, false⟩,
        ⟨(some 2), .move (.tmp 4), none, false⟩])
    (.region false [⟨(some 5), .move (.tmp 0), none, false⟩,
        ⟨(some 6), .move (.tmp 2), none, false⟩,
        ⟨(some 7), .move (.tmp 2), none, false⟩,
        ⟨(some 8), .conv 3 113 (.tmp 7), none, false⟩,
        ⟨(some 9), .call (.func 48) [(.tmp 8)], none, false⟩,
        ⟨(some 10), .call (.func 50) [(.tmp 5), (.const (.int .i64 0)), (.tmp 6), (.tmp 9)], none, false⟩])
theorem text40 : FnText Try.prog 40 [] 11 1 ac40 [] :=
  ⟨Try.call40, follows, Try.f40, _, Try.func40, rfl, rfl, by decide, by kernel_rfl, by kernel_rfl⟩

def ac50_G1 : List AOper :=
  [⟨(some 63), .move (.tmp 9), (some (62, true)), false⟩,
    ⟨(some 64), .pick (.tmp 62) (.tmp 63) (.const (.bool false)), none, false⟩]
def ac50_G2 : List AOper :=
  [⟨(some 66), .move (.tmp 12), (some (65, true)), false⟩,
    ⟨(some 67), .bin .eql 121 (.tmp 66) (.const (.int .i64 1)), (some (65, true)), false⟩,
    ⟨(some 68), .pick (.tmp 65) (.tmp 67) (.const (.bool false)), none, false⟩]
def ac50_G3 : List AOper :=
  [⟨(some 76), .move (.tmp 0), (some (75, true)), false⟩,
    ⟨(some 77), .move (.tmp 1), (some (75, true)), false⟩,
    ⟨(some 78), .bin .sub 3 (.tmp 77) (.const (.int .i64 1)), (some (75, true)), false⟩,
    ⟨(some 79), .iaddr 1 (.tmp 76) (.tmp 78), (some (75, true)), false⟩,
    ⟨(some 80), .load 1 false (.tmp 79), (some (75, true)), false⟩,
    ⟨(some 81), .move (.tmp 0), (some (75, true)), false⟩,
    ⟨(some 82), .move (.tmp 11), (some (75, true)), false⟩,
    ⟨(some 83), .iaddr 1 (.tmp 81) (.tmp 82), (some (75, true)), false⟩,
    ⟨(some 84), .load 1 false (.tmp 83), (some (75, true)), false⟩,
    ⟨(some 85), .call (.func 69) [(.tmp 80), (.tmp 84)], (some (75, true)), false⟩,
    ⟨(some 86), .un .not (.tmp 85), (some (75, true)), false⟩,
    ⟨(some 87), .pick (.tmp 75) (.tmp 86) (.const (.bool false)), none, false⟩]
def ac50_L1 : AC :=
  .block 1 (.seq (.region false [⟨(some 19), .move (.tmp 2), none, false⟩,
          ⟨(some 20), .move (.tmp 1), none, false⟩,
          ⟨(some 21), .bin .sub 3 (.tmp 19) (.tmp 20), none, false⟩,
          ⟨(some 10), .move (.tmp 21), none, false⟩])
      (.seq (.seq (.region false [⟨(some 22), .move (.tmp 10), none, false⟩,
              ⟨(some 23), .bin .leq 3 (.tmp 22) (.const (.int .i64 12)), none, false⟩])
          (.cond (.tmp 23)
            (.seq (.region false [⟨(some 24), .move (.tmp 0), none, false⟩,
                  ⟨(some 25), .move (.tmp 1), none, false⟩,
                  ⟨(some 26), .move (.tmp 2), none, false⟩,
                  ⟨(some 27), .call (.func 63) [(.tmp 24), (.tmp 25), (.tmp 26)], none, false⟩])
              (.ret))
            (.skip)))
        (.seq (.seq (.region false [⟨(some 28), .move (.tmp 3), none, false⟩,
                ⟨(some 29), .bin .eql 3 (.tmp 28) (.const (.int .i64 0)), none, false⟩])
            (.cond (.tmp 29)
              (.seq (.region false [⟨(some 30), .move (.tmp 0), none, false⟩,
                    ⟨(some 31), .move (.tmp 1), none, false⟩,
                    ⟨(some 32), .move (.tmp 2), none, false⟩,
                    ⟨(some 33), .call (.func 64) [(.tmp 30), (.tmp 31), (.tmp 32)], none, false⟩])
                (.ret))
              (.skip)))
          (.seq (.seq (.region false [⟨(some 34), .move (.tmp 8), none, false⟩,
                  ⟨(some 35), .un .not (.tmp 34), none, false⟩])
              (.cond (.tmp 35)
                (.seq (.region false [⟨(some 36), .move (.tmp 0), none, false⟩,
                      ⟨(some 37), .move (.tmp 1), none, false⟩,
                      ⟨(some 38), .move (.tmp 2), none, false⟩,
                      ⟨(some 39), .call (.func 65) [(.tmp 36), (.tmp 37), (.tmp 38)], none, false⟩])
                  (.region false [⟨(some 40), .move (.tmp 3), none, false⟩,
                      ⟨(some 41), .bin .sub 3 (.tmp 40) (.const (.int .i64 1)), none, false⟩,
                      ⟨(some 3), .move (.tmp 41), none, false⟩]))
                (.skip)))
            (.seq (.region false [⟨(some 43), .move (.tmp 0), none, false⟩,
                  ⟨(some 44), .move (.tmp 1), none, false⟩,
                  ⟨(some 45), .move (.tmp 2), none, false⟩,
                  ⟨(some 46), .call (.func 66) [(.tmp 43), (.tmp 44), (.tmp 45)], none, false⟩,
                  ⟨(some 42), .move (.tmp 46), none, false⟩,
                  ⟨(some 47), .extract (.tmp 42) 0, none, false⟩,
                  ⟨(some 48), .extract (.tmp 42) 1, none, false⟩,
                  ⟨(some 11), .move (.tmp 47), none, false⟩,
                  ⟨(some 12), .move (.tmp 48), none, false⟩])
              (.seq (.seq (.region false [⟨(some 49), .move (.tmp 12), none, false⟩,
                      ⟨(some 50), .bin .eql 121 (.tmp 49) (.const (.int .i64 2)), none, false⟩])
                  (.cond (.tmp 50)
                    (.seq (.region false [⟨(some 51), .move (.tmp 0), none, false⟩,
                          ⟨(some 52), .move (.tmp 1), none, false⟩,
                          ⟨(some 53), .move (.tmp 2), none, false⟩,
                          ⟨(some 54), .call (.func 67) [(.tmp 51), (.tmp 52), (.tmp 53)], none, false⟩])
                      (.seq (.region false [⟨(some 55), .move (.tmp 2), none, false⟩,
                            ⟨(some 56), .bin .sub 3 (.tmp 55) (.const (.int .i64 1)), none, false⟩,
                            ⟨(some 57), .move (.tmp 11), none, false⟩,
                            ⟨(some 58), .move (.tmp 1), none, false⟩,
                            ⟨(some 59), .bin .sub 3 (.tmp 57) (.tmp 58), none, false⟩,
                            ⟨(some 60), .bin .sub 3 (.tmp 56) (.tmp 59), none, false⟩,
                            ⟨(some 11), .move (.tmp 60), none, false⟩])
                        (.region false [⟨(some 12), .move (.const (.int .i64 1)), none, false⟩])))
                    (.skip)))
                (.seq (.seq (.region false (⟨(some 61), .move (.tmp 8), none, false⟩ :: ⟨(some 62), .move (.tmp 61), none, false⟩ :: (ac50_G1 ++ (⟨(some 65), .move (.tmp 64), none, false⟩ :: (ac50_G2 ++ [])))))
                    (.cond (.tmp 68)
                      (.seq (.region false [⟨(some 69), .move (.tmp 0), none, false⟩,
                            ⟨(some 70), .move (.tmp 1), none, false⟩,
                            ⟨(some 71), .move (.tmp 2), none, false⟩,
                            ⟨(some 72), .call (.func 68) [(.tmp 69), (.tmp 70), (.tmp 71)], none, false⟩])
                        (.cond (.tmp 72)
                          (.ret)
                          (.skip)))
                      (.skip)))
                  (.seq (.seq (.region true (⟨(some 73), .move (.tmp 1), none, false⟩ :: ⟨(some 74), .bin .gtr 3 (.tmp 73) (.const (.int .i64 0)), none, false⟩ :: ⟨(some 75), .move (.tmp 74), none, false⟩ :: (ac50_G3 ++ [])))
                      (.cond (.tmp 87)
                        (.seq (.region false [⟨(some 88), .move (.tmp 0), none, false⟩,
                              ⟨(some 89), .move (.tmp 1), none, false⟩,
                              ⟨(some 90), .move (.tmp 2), none, false⟩,
                              ⟨(some 91), .move (.tmp 11), none, false⟩,
                              ⟨(some 92), .call (.func 70) [(.tmp 88), (.tmp 89), (.tmp 90), (.tmp 91)], none, false⟩,
                              ⟨(some 13), .move (.tmp 92), none, false⟩])
                          (.seq (.region false [⟨(some 93), .move (.tmp 13), none, false⟩,
                                ⟨(some 1), .move (.tmp 93), none, false⟩])
                            (.exit 1)))
                        (.skip)))
                    (.seq (.region false [⟨(some 95), .move (.tmp 0), none, false⟩,
                          ⟨(some 96), .move (.tmp 1), none, false⟩,
                          ⟨(some 97), .move (.tmp 2), none, false⟩,
                          ⟨(some 98), .move (.tmp 11), none, false⟩,
                          ⟨(some 99), .call (.func 71) [(.tmp 95), (.tmp 96), (.tmp 97), (.tmp 98)], none, false⟩,
                          ⟨(some 94), .move (.tmp 99), none, false⟩,
                          ⟨(some 100), .extract (.tmp 94) 0, none, false⟩,
                          ⟨(some 101), .extract (.tmp 94) 1, none, false⟩,
                          ⟨(some 14), .move (.tmp 100), none, false⟩,
                          ⟨(some 15), .move (.tmp 101), none, false⟩])
                      (.seq (.region false [⟨(some 102), .move (.tmp 15), none, false⟩,
                            ⟨(some 9), .move (.tmp 102), none, false⟩])
                        (.seq (.region false [⟨(some 103), .move (.tmp 14), none, false⟩,
                              ⟨(some 104), .move (.tmp 1), none, false⟩,
                              ⟨(some 105), .bin .sub 3 (.tmp 103) (.tmp 104), none, false⟩,
                              ⟨(some 106), .move (.tmp 2), none, false⟩,
                              ⟨(some 107), .move (.tmp 14), none, false⟩,
                              ⟨(some 108), .bin .sub 3 (.tmp 106) (.tmp 107), none, false⟩,
                              ⟨(some 16), .move (.tmp 105), none, false⟩,
                              ⟨(some 17), .move (.tmp 108), none, false⟩])
                          (.seq (.region false [⟨(some 109), .move (.tmp 10), none, false⟩,
                                ⟨(some 110), .bin .quo 3 (.tmp 109) (.const (.int .i64 8)), none, false⟩,
                                ⟨(some 18), .move (.tmp 110), none, false⟩])
                            (.seq (.region false [⟨(some 111), .move (.tmp 16), none, false⟩,
                                  ⟨(some 112), .move (.tmp 17), none, false⟩,
                                  ⟨(some 113), .bin .lss 3 (.tmp 111) (.tmp 112), none, false⟩])
                              (.cond (.tmp 113)
                                (.seq (.region false [⟨(some 114), .move (.tmp 16), none, false⟩,
                                      ⟨(some 115), .move (.tmp 18), none, false⟩,
                                      ⟨(some 116), .bin .geq 3 (.tmp 114) (.tmp 115), none, false⟩,
                                      ⟨(some 8), .move (.tmp 116), none, false⟩])
                                  (.seq (.region false [⟨(some 117), .move (.tmp 0), none, false⟩,
                                        ⟨(some 118), .move (.tmp 1), none, false⟩,
                                        ⟨(some 119), .move (.tmp 14), none, false⟩,
                                        ⟨(some 120), .move (.tmp 3), none, false⟩,
                                        ⟨(some 121), .call (.func 50) [(.tmp 117), (.tmp 118), (.tmp 119), (.tmp 120)], none, false⟩])
                                    (.region false [⟨(some 122), .move (.tmp 14), none, false⟩,
                                        ⟨(some 123), .bin .add 3 (.tmp 122) (.const (.int .i64 1)), none, false⟩,
                                        ⟨(some 1), .move (.tmp 123), none, false⟩])))
                                (.seq (.region false [⟨(some 124), .move (.tmp 17), none, false⟩,
                                      ⟨(some 125), .move (.tmp 18), none, false⟩,
                                      ⟨(some 126), .bin .geq 3 (.tmp 124) (.tmp 125), none, false⟩,
                                      ⟨(some 8), .move (.tmp 126), none, false⟩])
                                  (.seq (.region false [⟨(some 127), .move (.tmp 0), none, false⟩,
                                        ⟨(some 128), .move (.tmp 14), none, false⟩,
                                        ⟨(some 129), .bin .add 3 (.tmp 128) (.const (.int .i64 1)), none, false⟩,
                                        ⟨(some 130), .move (.tmp 2), none, false⟩,
                                        ⟨(some 131), .move (.tmp 3), none, false⟩,
                                        ⟨(some 132), .call (.func 50) [(.tmp 127), (.tmp 129), (.tmp 130), (.tmp 131)], none, false⟩])
                                    (.region false [⟨(some 133), .move (.tmp 14), none, false⟩,
                                        ⟨(some 2), .move (.tmp 133), none, false⟩])))))))))))))))))
/-- slices.pdqsortOrdered[int] -/
def ac50 : AC :=
  .seq (.region false [⟨(some 8), .move (.const (.bool true)), none, false⟩])
    (.seq (.region false [⟨(some 9), .move (.const (.bool true)), none, false⟩])
      (.block 0 (.loop ac50_L1)))
theorem text50 : FnText Try.prog 50 [] 134 4 ac50 [] :=
  ⟨Try.call50, follows, Try.f50, _, Try.func50, rfl, rfl, by decide, by kernel_rfl, by kernel_rfl⟩

def ac63_G1 : List AOper :=
  [⟨(some 20), .move (.tmp 0), (some (19, true)), false⟩,
    ⟨(some 21), .move (.tmp 7), (some (19, true)), false⟩,
    ⟨(some 22), .iaddr 1 (.tmp 20) (.tmp 21), (some (19, true)), false⟩,
    ⟨(some 23), .load 1 false (.tmp 22), (some (19, true)), false⟩,
    ⟨(some 24), .move (.tmp 0), (some (19, true)), false⟩,
    ⟨(some 25), .move (.tmp 7), (some (19, true)), false⟩,
    ⟨(some 26), .bin .sub 3 (.tmp 25) (.const (.int .i64 1)), (some (19, true)), false⟩,
    ⟨(some 27), .iaddr 1 (.tmp 24) (.tmp 26), (some (19, true)), false⟩,
    ⟨(some 28), .load 1 false (.tmp 27), (some (19, true)), false⟩,
    ⟨(some 29), .call (.func 69) [(.tmp 23), (.tmp 28)], (some (19, true)), false⟩,
    ⟨(some 30), .pick (.tmp 19) (.tmp 29) (.const (.bool false)), none, false⟩]
def ac63_L2 : AC :=
  .seq (.seq (.region true (⟨(some 16), .move (.tmp 7), none, false⟩ :: ⟨(some 17), .move (.tmp 1), none, false⟩ :: ⟨(some 18), .bin .gtr 3 (.tmp 16) (.tmp 17), none, false⟩ :: ⟨(some 19), .move (.tmp 18), none, false⟩ :: (ac63_G1 ++ [])))
      (.cond (.tmp 30)
        (.skip)
        (.exit 2)))
    (.seq (.block 3 (.region true [⟨(some 33), .move (.tmp 0), none, false⟩,
            ⟨(some 34), .move (.tmp 7), none, false⟩,
            ⟨(some 35), .move (.tmp 0), none, true⟩,
            ⟨(some 36), .move (.tmp 7), none, true⟩,
            ⟨(some 37), .bin .sub 3 (.tmp 36) (.const (.int .i64 1)), none, true⟩,
            ⟨(some 38), .move (.tmp 0), none, false⟩,
            ⟨(some 39), .move (.tmp 7), none, false⟩,
            ⟨(some 40), .bin .sub 3 (.tmp 39) (.const (.int .i64 1)), none, false⟩,
            ⟨(some 41), .iaddr 1 (.tmp 38) (.tmp 40), none, false⟩,
            ⟨(some 42), .load 1 false (.tmp 41), none, false⟩,
            ⟨(some 43), .move (.tmp 0), none, false⟩,
            ⟨(some 44), .move (.tmp 7), none, false⟩,
            ⟨(some 45), .iaddr 1 (.tmp 43) (.tmp 44), none, false⟩,
            ⟨(some 46), .load 1 false (.tmp 45), none, false⟩,
            ⟨(some 47), .iaddr 1 (.tmp 33) (.tmp 34), none, false⟩,
            ⟨none, .store 1 (.tmp 47) (.tmp 42), none, false⟩,
            ⟨(some 48), .iaddr 1 (.tmp 35) (.tmp 37), none, false⟩,
            ⟨none, .store 1 (.tmp 48) (.tmp 46), none, false⟩]))
      (.region false [⟨(some 31), .move (.tmp 7), none, false⟩,
          ⟨(some 32), .bin .sub 3 (.tmp 31) (.const (.int .i64 1)), none, false⟩,
          ⟨(some 7), .move (.tmp 32), none, false⟩]))
def ac63_L1 : AC :=
  .seq (.seq (.region false [⟨(some 10), .move (.tmp 6), none, false⟩,
          ⟨(some 11), .move (.tmp 2), none, false⟩,
          ⟨(some 12), .bin .lss 3 (.tmp 10) (.tmp 11), none, false⟩])
      (.cond (.tmp 12)
        (.skip)
        (.exit 0)))
    (.seq (.block 1 (.seq (.region false [⟨(some 15), .move (.tmp 6), none, false⟩,
              ⟨(some 7), .move (.tmp 15), none, false⟩])
          (.block 2 (.loop ac63_L2))))
      (.region false [⟨(some 13), .move (.tmp 6), none, false⟩,
          ⟨(some 14), .bin .add 3 (.tmp 13) (.const (.int .i64 1)), none, false⟩,
          ⟨(some 6), .move (.tmp 14), none, false⟩]))
/-- slices.insertionSortOrdered[int] -/
def ac63 : AC :=
  .seq (.region false [⟨(some 8), .move (.tmp 1), none, false⟩,
        ⟨(some 9), .bin .add 3 (.tmp 8) (.const (.int .i64 1)), none, false⟩,
        ⟨(some 6), .move (.tmp 9), none, false⟩])
    (.block 0 (.loop ac63_L1))
theorem text63 : FnText Try.prog 63 [] 49 3 ac63 [] :=
  ⟨Try.call63, follows, Try.f63, _, Try.func63, rfl, rfl, by decide, by kernel_rfl, by kernel_rfl⟩

def ac69_G1 : List AOper :=
  [⟨(some 8), .move (.tmp 1), (some (7, true)), false⟩,
    ⟨(some 9), .call (.func 49) [(.tmp 8)], (some (7, true)), false⟩,
    ⟨(some 10), .un .not (.tmp 9), (some (7, true)), false⟩,
    ⟨(some 11), .pick (.tmp 7) (.tmp 10) (.const (.bool false)), none, false⟩]
def ac69_G2 : List AOper :=
  [⟨(some 13), .move (.tmp 0), (some (12, false)), false⟩,
    ⟨(some 14), .move (.tmp 1), (some (12, false)), false⟩,
    ⟨(some 15), .bin .lss 3 (.tmp 13) (.tmp 14), (some (12, false)), false⟩,
    ⟨(some 16), .pick (.tmp 12) (.const (.bool true)) (.tmp 15), none, false⟩]
/-- cmp.Less[int] -/
def ac69 : AC :=
  .seq (.region false [⟨(some 4), .move (.const (.bool false)), none, false⟩])
    (.seq (.region false (⟨(some 5), .move (.tmp 0), none, false⟩ :: ⟨(some 6), .call (.func 49) [(.tmp 5)], none, false⟩ :: ⟨(some 7), .move (.tmp 6), none, false⟩ :: (ac69_G1 ++ (⟨(some 12), .move (.tmp 11), none, false⟩ :: (ac69_G2 ++ [⟨(some 4), .move (.tmp 16), none, false⟩])))))
      (.ret))
theorem text69 : FnText Try.prog 69 [] 17 2 ac69 [(4, none)] :=
  ⟨Try.call69, follows, Try.f69, _, Try.func69, rfl, rfl, by decide, by kernel_rfl, by kernel_rfl⟩

def ac64_L1 : AC :=
  .seq (.seq (.region false [⟨(some 18), .move (.tmp 9), none, false⟩,
          ⟨(some 19), .bin .geq 3 (.tmp 18) (.const (.int .i64 0)), none, false⟩])
      (.cond (.tmp 19)
        (.skip)
        (.exit 0)))
    (.seq (.block 1 (.region false [⟨(some 22), .move (.tmp 0), none, false⟩,
            ⟨(some 23), .move (.tmp 9), none, false⟩,
            ⟨(some 24), .move (.tmp 8), none, false⟩,
            ⟨(some 25), .move (.tmp 6), none, false⟩,
            ⟨(some 26), .call (.func 79) [(.tmp 22), (.tmp 23), (.tmp 24), (.tmp 25)], none, false⟩]))
      (.region false [⟨(some 20), .move (.tmp 9), none, false⟩,
          ⟨(some 21), .bin .sub 3 (.tmp 20) (.const (.int .i64 1)), none, false⟩,
          ⟨(some 9), .move (.tmp 21), none, false⟩]))
def ac64_L2 : AC :=
  .seq (.seq (.region false [⟨(some 29), .move (.tmp 10), none, false⟩,
          ⟨(some 30), .bin .geq 3 (.tmp 29) (.const (.int .i64 0)), none, false⟩])
      (.cond (.tmp 30)
        (.skip)
        (.exit 2)))
    (.seq (.block 3 (.seq (.region true [⟨(some 33), .move (.tmp 0), none, false⟩,
              ⟨(some 34), .move (.tmp 6), none, false⟩,
              ⟨(some 35), .move (.tmp 0), none, true⟩,
              ⟨(some 36), .move (.tmp 6), none, true⟩,
              ⟨(some 37), .move (.tmp 10), none, true⟩,
              ⟨(some 38), .bin .add 3 (.tmp 36) (.tmp 37), none, true⟩,
              ⟨(some 39), .move (.tmp 0), none, false⟩,
              ⟨(some 40), .move (.tmp 6), none, false⟩,
              ⟨(some 41), .move (.tmp 10), none, false⟩,
              ⟨(some 42), .bin .add 3 (.tmp 40) (.tmp 41), none, false⟩,
              ⟨(some 43), .iaddr 1 (.tmp 39) (.tmp 42), none, false⟩,
              ⟨(some 44), .load 1 false (.tmp 43), none, false⟩,
              ⟨(some 45), .move (.tmp 0), none, false⟩,
              ⟨(some 46), .move (.tmp 6), none, false⟩,
              ⟨(some 47), .iaddr 1 (.tmp 45) (.tmp 46), none, false⟩,
              ⟨(some 48), .load 1 false (.tmp 47), none, false⟩,
              ⟨(some 49), .iaddr 1 (.tmp 33) (.tmp 34), none, false⟩,
              ⟨none, .store 1 (.tmp 49) (.tmp 44), none, false⟩,
              ⟨(some 50), .iaddr 1 (.tmp 35) (.tmp 38), none, false⟩,
              ⟨none, .store 1 (.tmp 50) (.tmp 48), none, false⟩])
          (.region false [⟨(some 51), .move (.tmp 0), none, false⟩,
              ⟨(some 52), .move (.tmp 7), none, false⟩,
              ⟨(some 53), .move (.tmp 10), none, false⟩,
              ⟨(some 54), .move (.tmp 6), none, false⟩,
              ⟨(some 55), .call (.func 79) [(.tmp 51), (.tmp 52), (.tmp 53), (.tmp 54)], none, false⟩])))
      (.region false [⟨(some 31), .move (.tmp 10), none, false⟩,
          ⟨(some 32), .bin .sub 3 (.tmp 31) (.const (.int .i64 1)), none, false⟩,
          ⟨(some 10), .move (.tmp 32), none, false⟩]))
/-- slices.heapSortOrdered[int] -/
def ac64 : AC :=
  .seq (.region false [⟨(some 11), .move (.tmp 1), none, false⟩,
        ⟨(some 6), .move (.tmp 11), none, false⟩])
    (.seq (.region false [⟨(some 7), .move (.const (.int .i64 0)), none, false⟩])
      (.seq (.region false [⟨(some 12), .move (.tmp 2), none, false⟩,
            ⟨(some 13), .move (.tmp 1), none, false⟩,
            ⟨(some 14), .bin .sub 3 (.tmp 12) (.tmp 13), none, false⟩,
            ⟨(some 8), .move (.tmp 14), none, false⟩])
        (.seq (.seq (.region false [⟨(some 15), .move (.tmp 8), none, false⟩,
                ⟨(some 16), .bin .sub 3 (.tmp 15) (.const (.int .i64 1)), none, false⟩,
                ⟨(some 17), .bin .quo 3 (.tmp 16) (.const (.int .i64 2)), none, false⟩,
                ⟨(some 9), .move (.tmp 17), none, false⟩])
            (.block 0 (.loop ac64_L1)))
          (.seq (.region false [⟨(some 27), .move (.tmp 8), none, false⟩,
                ⟨(some 28), .bin .sub 3 (.tmp 27) (.const (.int .i64 1)), none, false⟩,
                ⟨(some 10), .move (.tmp 28), none, false⟩])
            (.block 2 (.loop ac64_L2))))))
theorem text64 : FnText Try.prog 64 [] 56 3 ac64 [] :=
  ⟨Try.call64, follows, Try.f64, _, Try.func64, rfl, rfl, by decide, by kernel_rfl, by kernel_rfl⟩

def ac79_G1 : List AOper :=
  [⟨(some 22), .move (.tmp 0), (some (21, true)), false⟩,
    ⟨(some 23), .move (.tmp 3), (some (21, true)), false⟩,
    ⟨(some 24), .move (.tmp 9), (some (21, true)), false⟩,
    ⟨(some 25), .bin .add 3 (.tmp 23) (.tmp 24), (some (21, true)), false⟩,
    ⟨(some 26), .iaddr 1 (.tmp 22) (.tmp 25), (some (21, true)), false⟩,
    ⟨(some 27), .load 1 false (.tmp 26), (some (21, true)), false⟩,
    ⟨(some 28), .move (.tmp 0), (some (21, true)), false⟩,
    ⟨(some 29), .move (.tmp 3), (some (21, true)), false⟩,
    ⟨(some 30), .move (.tmp 9), (some (21, true)), false⟩,
    ⟨(some 31), .bin .add 3 (.tmp 29) (.tmp 30), (some (21, true)), false⟩,
    ⟨(some 32), .bin .add 3 (.tmp 31) (.const (.int .i64 1)), (some (21, true)), false⟩,
    ⟨(some 33), .iaddr 1 (.tmp 28) (.tmp 32), (some (21, true)), false⟩,
    ⟨(some 34), .load 1 false (.tmp 33), (some (21, true)), false⟩,
    ⟨(some 35), .call (.func 69) [(.tmp 27), (.tmp 34)], (some (21, true)), false⟩,
    ⟨(some 36), .pick (.tmp 21) (.tmp 35) (.const (.bool false)), none, false⟩]
def ac79_L1 : AC :=
  .block 1 (.seq (.region false [⟨(some 11), .move (.tmp 8), none, false⟩,
          ⟨(some 12), .bin .mul 3 (.const (.int .i64 2)) (.tmp 11), none, false⟩,
          ⟨(some 13), .bin .add 3 (.tmp 12) (.const (.int .i64 1)), none, false⟩,
          ⟨(some 9), .move (.tmp 13), none, false⟩])
      (.seq (.seq (.region false [⟨(some 14), .move (.tmp 9), none, false⟩,
              ⟨(some 15), .move (.tmp 2), none, false⟩,
              ⟨(some 16), .bin .geq 3 (.tmp 14) (.tmp 15), none, false⟩])
          (.cond (.tmp 16)
            (.exit 0)
            (.skip)))
        (.seq (.seq (.region true (⟨(some 17), .move (.tmp 9), none, false⟩ :: ⟨(some 18), .bin .add 3 (.tmp 17) (.const (.int .i64 1)), none, false⟩ :: ⟨(some 19), .move (.tmp 2), none, false⟩ :: ⟨(some 20), .bin .lss 3 (.tmp 18) (.tmp 19), none, false⟩ :: ⟨(some 21), .move (.tmp 20), none, false⟩ :: (ac79_G1 ++ [])))
            (.cond (.tmp 36)
              (.region false [⟨(some 37), .move (.tmp 9), none, false⟩,
                  ⟨(some 38), .bin .add 3 (.tmp 37) (.const (.int .i64 1)), none, false⟩,
                  ⟨(some 9), .move (.tmp 38), none, false⟩])
              (.skip)))
          (.seq (.seq (.region true [⟨(some 39), .move (.tmp 0), none, false⟩,
                  ⟨(some 40), .move (.tmp 3), none, false⟩,
                  ⟨(some 41), .move (.tmp 8), none, false⟩,
                  ⟨(some 42), .bin .add 3 (.tmp 40) (.tmp 41), none, false⟩,
                  ⟨(some 43), .iaddr 1 (.tmp 39) (.tmp 42), none, false⟩,
                  ⟨(some 44), .load 1 false (.tmp 43), none, false⟩,
                  ⟨(some 45), .move (.tmp 0), none, false⟩,
                  ⟨(some 46), .move (.tmp 3), none, false⟩,
                  ⟨(some 47), .move (.tmp 9), none, false⟩,
                  ⟨(some 48), .bin .add 3 (.tmp 46) (.tmp 47), none, false⟩,
                  ⟨(some 49), .iaddr 1 (.tmp 45) (.tmp 48), none, false⟩,
                  ⟨(some 50), .load 1 false (.tmp 49), none, false⟩,
                  ⟨(some 51), .call (.func 69) [(.tmp 44), (.tmp 50)], none, false⟩,
                  ⟨(some 52), .un .not (.tmp 51), none, false⟩])
              (.cond (.tmp 52)
                (.ret)
                (.skip)))
            (.seq (.region true [⟨(some 53), .move (.tmp 0), none, false⟩,
                  ⟨(some 54), .move (.tmp 3), none, false⟩,
                  ⟨(some 55), .move (.tmp 8), none, false⟩,
                  ⟨(some 56), .bin .add 3 (.tmp 54) (.tmp 55), none, false⟩,
                  ⟨(some 57), .move (.tmp 0), none, true⟩,
                  ⟨(some 58), .move (.tmp 3), none, true⟩,
                  ⟨(some 59), .move (.tmp 9), none, true⟩,
                  ⟨(some 60), .bin .add 3 (.tmp 58) (.tmp 59), none, true⟩,
                  ⟨(some 61), .move (.tmp 0), none, false⟩,
                  ⟨(some 62), .move (.tmp 3), none, false⟩,
                  ⟨(some 63), .move (.tmp 9), none, false⟩,
                  ⟨(some 64), .bin .add 3 (.tmp 62) (.tmp 63), none, false⟩,
                  ⟨(some 65), .iaddr 1 (.tmp 61) (.tmp 64), none, false⟩,
                  ⟨(some 66), .load 1 false (.tmp 65), none, false⟩,
                  ⟨(some 67), .move (.tmp 0), none, false⟩,
                  ⟨(some 68), .move (.tmp 3), none, false⟩,
                  ⟨(some 69), .move (.tmp 8), none, false⟩,
                  ⟨(some 70), .bin .add 3 (.tmp 68) (.tmp 69), none, false⟩,
                  ⟨(some 71), .iaddr 1 (.tmp 67) (.tmp 70), none, false⟩,
                  ⟨(some 72), .load 1 false (.tmp 71), none, false⟩,
                  ⟨(some 73), .iaddr 1 (.tmp 53) (.tmp 56), none, false⟩,
                  ⟨none, .store 1 (.tmp 73) (.tmp 66), none, false⟩,
                  ⟨(some 74), .iaddr 1 (.tmp 57) (.tmp 60), none, false⟩,
                  ⟨none, .store 1 (.tmp 74) (.tmp 72), none, false⟩])
              (.region false [⟨(some 75), .move (.tmp 9), none, false⟩,
                  ⟨(some 8), .move (.tmp 75), none, false⟩]))))))
/-- slices.siftDownOrdered[int] -/
def ac79 : AC :=
  .seq (.region false [⟨(some 10), .move (.tmp 1), none, false⟩,
        ⟨(some 8), .move (.tmp 10), none, false⟩])
    (.block 0 (.loop ac79_L1))
theorem text79 : FnText Try.prog 79 [] 76 4 ac79 [] :=
  ⟨Try.call79, follows, Try.f79, _, Try.func79, rfl, rfl, by decide, by kernel_rfl, by kernel_rfl⟩

def ac65_L1 : AC :=
  .seq (.seq (.region false [⟨(some 26), .move (.tmp 9), none, false⟩,
          ⟨(some 27), .move (.tmp 1), none, false⟩,
          ⟨(some 28), .move (.tmp 6), none, false⟩,
          ⟨(some 29), .bin .quo 3 (.tmp 28) (.const (.int .i64 4)), none, false⟩,
          ⟨(some 30), .bin .mul 3 (.tmp 29) (.const (.int .i64 2)), none, false⟩,
          ⟨(some 31), .bin .add 3 (.tmp 27) (.tmp 30), none, false⟩,
          ⟨(some 32), .bin .add 3 (.tmp 31) (.const (.int .i64 1)), none, false⟩,
          ⟨(some 33), .bin .leq 3 (.tmp 26) (.tmp 32), none, false⟩])
      (.cond (.tmp 33)
        (.skip)
        (.exit 0)))
    (.seq (.block 1 (.seq (.region false [⟨(some 36), .call (.func 76) [(.tmp 7)], none, false⟩,
              ⟨(some 37), .move (.tmp 8), none, false⟩,
              ⟨(some 38), .bin .sub 113 (.tmp 37) (.const (.int .u64 1)), none, false⟩,
              ⟨(some 39), .bin .and 113 (.tmp 36) (.tmp 38), none, false⟩,
              ⟨(some 40), .conv 113 3 (.tmp 39), none, false⟩,
              ⟨(some 10), .move (.tmp 40), none, false⟩])
          (.seq (.seq (.region false [⟨(some 41), .move (.tmp 10), none, false⟩,
                  ⟨(some 42), .move (.tmp 6), none, false⟩,
                  ⟨(some 43), .bin .geq 3 (.tmp 41) (.tmp 42), none, false⟩])
              (.cond (.tmp 43)
                (.region false [⟨(some 44), .move (.tmp 10), none, false⟩,
                    ⟨(some 45), .move (.tmp 6), none, false⟩,
                    ⟨(some 46), .bin .sub 3 (.tmp 44) (.tmp 45), none, false⟩,
                    ⟨(some 10), .move (.tmp 46), none, false⟩])
                (.skip)))
            (.region true [⟨(some 47), .move (.tmp 0), none, false⟩,
                ⟨(some 48), .move (.tmp 9), none, false⟩,
                ⟨(some 49), .move (.tmp 0), none, true⟩,
                ⟨(some 50), .move (.tmp 1), none, true⟩,
                ⟨(some 51), .move (.tmp 10), none, true⟩,
                ⟨(some 52), .bin .add 3 (.tmp 50) (.tmp 51), none, true⟩,
                ⟨(some 53), .move (.tmp 0), none, false⟩,
                ⟨(some 54), .move (.tmp 1), none, false⟩,
                ⟨(some 55), .move (.tmp 10), none, false⟩,
                ⟨(some 56), .bin .add 3 (.tmp 54) (.tmp 55), none, false⟩,
                ⟨(some 57), .iaddr 1 (.tmp 53) (.tmp 56), none, false⟩,
                ⟨(some 58), .load 1 false (.tmp 57), none, false⟩,
                ⟨(some 59), .move (.tmp 0), none, false⟩,
                ⟨(some 60), .move (.tmp 9), none, false⟩,
                ⟨(some 61), .iaddr 1 (.tmp 59) (.tmp 60), none, false⟩,
                ⟨(some 62), .load 1 false (.tmp 61), none, false⟩,
                ⟨(some 63), .iaddr 1 (.tmp 47) (.tmp 48), none, false⟩,
                ⟨none, .store 1 (.tmp 63) (.tmp 58), none, false⟩,
                ⟨(some 64), .iaddr 1 (.tmp 49) (.tmp 52), none, false⟩,
                ⟨none, .store 1 (.tmp 64) (.tmp 62), none, false⟩]))))
      (.region false [⟨(some 34), .move (.tmp 9), none, false⟩,
          ⟨(some 35), .bin .add 3 (.tmp 34) (.const (.int .i64 1)), none, false⟩,
          ⟨(some 9), .move (.tmp 35), none, false⟩]))
/-- slices.breakPatternsOrdered[int] -/
def ac65 : AC :=
  .seq (.region false [⟨(some 11), .move (.tmp 2), none, false⟩,
        ⟨(some 12), .move (.tmp 1), none, false⟩,
        ⟨(some 13), .bin .sub 3 (.tmp 11) (.tmp 12), none, false⟩,
        ⟨(some 6), .move (.tmp 13), none, false⟩])
    (.seq (.region false [⟨(some 14), .move (.tmp 6), none, false⟩,
          ⟨(some 15), .bin .geq 3 (.tmp 14) (.const (.int .i64 8)), none, false⟩])
      (.cond (.tmp 15)
        (.seq (.region false [⟨(some 16), .move (.tmp 6), none, false⟩,
              ⟨(some 17), .conv 3 143 (.tmp 16), none, false⟩,
              ⟨(some 7), .alloc true 143 (.int .u64 0), none, false⟩,
              ⟨none, .store 1 (.tmp 7) (.tmp 17), none, false⟩])
          (.seq (.region false [⟨(some 18), .move (.tmp 6), none, false⟩,
                ⟨(some 19), .call (.func 75) [(.tmp 18)], none, false⟩,
                ⟨(some 8), .move (.tmp 19), none, false⟩])
            (.seq (.region false [⟨(some 20), .move (.tmp 1), none, false⟩,
                  ⟨(some 21), .move (.tmp 6), none, false⟩,
                  ⟨(some 22), .bin .quo 3 (.tmp 21) (.const (.int .i64 4)), none, false⟩,
                  ⟨(some 23), .bin .mul 3 (.tmp 22) (.const (.int .i64 2)), none, false⟩,
                  ⟨(some 24), .bin .add 3 (.tmp 20) (.tmp 23), none, false⟩,
                  ⟨(some 25), .bin .sub 3 (.tmp 24) (.const (.int .i64 1)), none, false⟩,
                  ⟨(some 9), .move (.tmp 25), none, false⟩])
              (.block 0 (.loop ac65_L1)))))
        (.skip)))
theorem text65 : FnText Try.prog 65 [7] 65 3 ac65 [] :=
  ⟨Try.call65, follows, Try.f65, _, Try.func65, rfl, rfl, by decide, by kernel_rfl, by kernel_rfl⟩


/-- slices.choosePivotOrdered[int] -/
def ac66 : AC :=
  .seq (.region false [⟨(some 6), .move (.const (.int .i64 0)), none, false⟩,
        ⟨(some 7), .move (.const (.int .i64 0)), none, false⟩])
    (.seq (.region false [⟨(some 13), .move (.tmp 2), none, false⟩,
          ⟨(some 14), .move (.tmp 1), none, false⟩,
          ⟨(some 15), .bin .sub 3 (.tmp 13) (.tmp 14), none, false⟩,
          ⟨(some 8), .move (.tmp 15), none, false⟩])
      (.seq (.region false [⟨(some 9), .alloc true 3 (.int .i64 0), none, false⟩])
        (.seq (.region false [⟨(some 16), .move (.tmp 1), none, false⟩,
              ⟨(some 17), .move (.tmp 8), none, false⟩,
              ⟨(some 18), .bin .quo 3 (.tmp 17) (.const (.int .i64 4)), none, false⟩,
              ⟨(some 19), .bin .mul 3 (.tmp 18) (.const (.int .i64 1)), none, false⟩,
              ⟨(some 20), .bin .add 3 (.tmp 16) (.tmp 19), none, false⟩,
              ⟨(some 10), .move (.tmp 20), none, false⟩])
          (.seq (.region false [⟨(some 21), .move (.tmp 1), none, false⟩,
                ⟨(some 22), .move (.tmp 8), none, false⟩,
                ⟨(some 23), .bin .quo 3 (.tmp 22) (.const (.int .i64 4)), none, false⟩,
                ⟨(some 24), .bin .mul 3 (.tmp 23) (.const (.int .i64 2)), none, false⟩,
                ⟨(some 25), .bin .add 3 (.tmp 21) (.tmp 24), none, false⟩,
                ⟨(some 11), .move (.tmp 25), none, false⟩])
            (.seq (.region false [⟨(some 26), .move (.tmp 1), none, false⟩,
                  ⟨(some 27), .move (.tmp 8), none, false⟩,
                  ⟨(some 28), .bin .quo 3 (.tmp 27) (.const (.int .i64 4)), none, false⟩,
                  ⟨(some 29), .bin .mul 3 (.tmp 28) (.const (.int .i64 3)), none, false⟩,
                  ⟨(some 30), .bin .add 3 (.tmp 26) (.tmp 29), none, false⟩,
                  ⟨(some 12), .move (.tmp 30), none, false⟩])
              (.seq (.seq (.region false [⟨(some 31), .move (.tmp 8), none, false⟩,
                      ⟨(some 32), .bin .geq 3 (.tmp 31) (.const (.int .i64 8)), none, false⟩])
                  (.cond (.tmp 32)
                    (.seq (.seq (.region false [⟨(some 33), .move (.tmp 8), none, false⟩,
                            ⟨(some 34), .bin .geq 3 (.tmp 33) (.const (.int .i64 50)), none, false⟩])
                        (.cond (.tmp 34)
                          (.seq (.region false [⟨(some 35), .move (.tmp 0), none, false⟩,
                                ⟨(some 36), .move (.tmp 10), none, false⟩,
                                ⟨(some 37), .call (.func 80) [(.tmp 35), (.tmp 36), (.tmp 9)], none, false⟩,
                                ⟨(some 10), .move (.tmp 37), none, false⟩])
                            (.seq (.region false [⟨(some 38), .move (.tmp 0), none, false⟩,
                                  ⟨(some 39), .move (.tmp 11), none, false⟩,
                                  ⟨(some 40), .call (.func 80) [(.tmp 38), (.tmp 39), (.tmp 9)], none, false⟩,
                                  ⟨(some 11), .move (.tmp 40), none, false⟩])
                              (.region false [⟨(some 41), .move (.tmp 0), none, false⟩,
                                  ⟨(some 42), .move (.tmp 12), none, false⟩,
                                  ⟨(some 43), .call (.func 80) [(.tmp 41), (.tmp 42), (.tmp 9)], none, false⟩,
                                  ⟨(some 12), .move (.tmp 43), none, false⟩])))
                          (.skip)))
                      (.region false [⟨(some 44), .move (.tmp 0), none, false⟩,
                          ⟨(some 45), .move (.tmp 10), none, false⟩,
                          ⟨(some 46), .move (.tmp 11), none, false⟩,
                          ⟨(some 47), .move (.tmp 12), none, false⟩,
                          ⟨(some 48), .call (.func 81) [(.tmp 44), (.tmp 45), (.tmp 46), (.tmp 47), (.tmp 9)], none, false⟩,
                          ⟨(some 11), .move (.tmp 48), none, false⟩]))
                    (.skip)))
                (.seq (.region false [⟨(some 49), .load 1 false (.tmp 9), none, false⟩])
                  (.block 0 (.seq (.region false [⟨(some 52), .bin .eql 3 (.tmp 49) (.const (.int .i64 0)), none, false⟩,
                          ⟨(some 51), .move (.tmp 52), none, false⟩])
                      (.cond (.tmp 51)
                        (.seq (.region false [⟨(some 53), .move (.tmp 11), none, false⟩,
                              ⟨(some 6), .move (.tmp 53), none, false⟩,
                              ⟨(some 7), .move (.const (.int .i64 1)), none, false⟩])
                          (.ret))
                        (.seq (.region false [⟨(some 55), .bin .eql 3 (.tmp 49) (.const (.int .i64 12)), none, false⟩,
                              ⟨(some 54), .move (.tmp 55), none, false⟩])
                          (.cond (.tmp 54)
                            (.seq (.region false [⟨(some 56), .move (.tmp 11), none, false⟩,
                                  ⟨(some 6), .move (.tmp 56), none, false⟩,
                                  ⟨(some 7), .move (.const (.int .i64 2)), none, false⟩])
                              (.ret))
                            (.seq (.region false [⟨(some 50), .move (.tmp 11), none, false⟩,
                                  ⟨(some 6), .move (.tmp 50), none, false⟩,
                                  ⟨(some 7), .move (.const (.int .i64 0)), none, false⟩])
                              (.ret))))))))))))))
theorem text66 : FnText Try.prog 66 [9] 57 3 ac66 [(6, none), (7, none)] :=
  ⟨Try.call66, follows, Try.f66, _, Try.func66, rfl, rfl, by decide, by kernel_rfl, by kernel_rfl⟩


/-- slices.medianAdjacentOrdered[int] -/
def ac80 : AC :=
  .seq (.region false [⟨(some 6), .move (.const (.int .i64 0)), none, false⟩])
    (.seq (.region false [⟨(some 7), .move (.tmp 0), none, false⟩,
          ⟨(some 8), .move (.tmp 1), none, false⟩,
          ⟨(some 9), .bin .sub 3 (.tmp 8) (.const (.int .i64 1)), none, false⟩,
          ⟨(some 10), .move (.tmp 1), none, false⟩,
          ⟨(some 11), .move (.tmp 1), none, false⟩,
          ⟨(some 12), .bin .add 3 (.tmp 11) (.const (.int .i64 1)), none, false⟩,
          ⟨(some 13), .move (.tmp 2), none, false⟩,
          ⟨(some 14), .call (.func 81) [(.tmp 7), (.tmp 9), (.tmp 10), (.tmp 12), (.tmp 13)], none, false⟩,
          ⟨(some 6), .move (.tmp 14), none, false⟩])
      (.ret))
theorem text80 : FnText Try.prog 80 [] 15 3 ac80 [(6, none)] :=
  ⟨Try.call80, follows, Try.f80, _, Try.func80, rfl, rfl, by decide, by kernel_rfl, by kernel_rfl⟩


/-- slices.medianOrdered[int] -/
def ac81 : AC :=
  .seq (.region false [⟨(some 10), .move (.const (.int .i64 0)), none, false⟩])
    (.seq (.region false [⟨(some 12), .move (.tmp 0), none, false⟩,
          ⟨(some 13), .move (.tmp 1), none, false⟩,
          ⟨(some 14), .move (.tmp 2), none, false⟩,
          ⟨(some 15), .move (.tmp 4), none, false⟩,
          ⟨(some 16), .call (.func 89) [(.tmp 12), (.tmp 13), (.tmp 14), (.tmp 15)], none, false⟩,
          ⟨(some 11), .move (.tmp 16), none, false⟩,
          ⟨(some 17), .extract (.tmp 11) 0, none, false⟩,
          ⟨(some 18), .extract (.tmp 11) 1, none, false⟩,
          ⟨(some 1), .move (.tmp 17), none, false⟩,
          ⟨(some 2), .move (.tmp 18), none, false⟩])
      (.seq (.region false [⟨(some 20), .move (.tmp 0), none, false⟩,
            ⟨(some 21), .move (.tmp 2), none, false⟩,
            ⟨(some 22), .move (.tmp 3), none, false⟩,
            ⟨(some 23), .move (.tmp 4), none, false⟩,
            ⟨(some 24), .call (.func 89) [(.tmp 20), (.tmp 21), (.tmp 22), (.tmp 23)], none, false⟩,
            ⟨(some 19), .move (.tmp 24), none, false⟩,
            ⟨(some 25), .extract (.tmp 19) 0, none, false⟩,
            ⟨(some 26), .extract (.tmp 19) 1, none, false⟩,
            ⟨(some 2), .move (.tmp 25), none, false⟩,
            ⟨(some 3), .move (.tmp 26), none, false⟩])
        (.seq (.region false [⟨(some 28), .move (.tmp 0), none, false⟩,
              ⟨(some 29), .move (.tmp 1), none, false⟩,
              ⟨(some 30), .move (.tmp 2), none, false⟩,
              ⟨(some 31), .move (.tmp 4), none, false⟩,
              ⟨(some 32), .call (.func 89) [(.tmp 28), (.tmp 29), (.tmp 30), (.tmp 31)], none, false⟩,
              ⟨(some 27), .move (.tmp 32), none, false⟩,
              ⟨(some 33), .extract (.tmp 27) 0, none, false⟩,
              ⟨(some 34), .extract (.tmp 27) 1, none, false⟩,
              ⟨(some 1), .move (.tmp 33), none, false⟩,
              ⟨(some 2), .move (.tmp 34), none, false⟩])
          (.seq (.region false [⟨(some 35), .move (.tmp 2), none, false⟩,
                ⟨(some 10), .move (.tmp 35), none, false⟩])
            (.ret)))))
theorem text81 : FnText Try.prog 81 [] 36 5 ac81 [(10, none)] :=
  ⟨Try.call81, follows, Try.f81, _, Try.func81, rfl, rfl, by decide, by kernel_rfl, by kernel_rfl⟩


/-- slices.order2Ordered[int] -/
def ac89 : AC :=
  .seq (.region false [⟨(some 8), .move (.const (.int .i64 0)), none, false⟩,
        ⟨(some 9), .move (.const (.int .i64 0)), none, false⟩])
    (.seq (.seq (.regionT [⟨(some 10), .move (.tmp 0), none, false⟩,
            ⟨(some 11), .move (.tmp 2), none, false⟩,
            ⟨(some 12), .iaddr 1 (.tmp 10) (.tmp 11), none, false⟩,
            ⟨(some 13), .load 1 false (.tmp 12), none, false⟩,
            ⟨(some 14), .move (.tmp 0), none, false⟩,
            ⟨(some 15), .move (.tmp 1), none, false⟩,
            ⟨(some 16), .iaddr 1 (.tmp 14) (.tmp 15), none, false⟩,
            ⟨(some 17), .load 1 false (.tmp 16), none, false⟩] ⟨(some 18), .call (.func 69) [(.tmp 13), (.tmp 17)], none, false⟩)
        (.cond (.tmp 18)
          (.seq (.region false [⟨(some 19), .move (.tmp 3), none, false⟩,
                ⟨(some 20), .nilCheck (.tmp 19), none, false⟩,
                ⟨(some 21), .load 1 false (.tmp 20), none, false⟩,
                ⟨(some 22), .bin .add 3 (.tmp 21) (.const (.int .i64 1)), none, false⟩,
                ⟨(some 23), .nilCheck (.tmp 19), none, false⟩,
                ⟨none, .store 1 (.tmp 23) (.tmp 22), none, false⟩])
            (.seq (.region false [⟨(some 24), .move (.tmp 2), none, false⟩,
                  ⟨(some 25), .move (.tmp 1), none, false⟩,
                  ⟨(some 8), .move (.tmp 24), none, false⟩,
                  ⟨(some 9), .move (.tmp 25), none, false⟩])
              (.ret)))
          (.skip)))
      (.seq (.region false [⟨(some 26), .move (.tmp 1), none, false⟩,
            ⟨(some 27), .move (.tmp 2), none, false⟩,
            ⟨(some 8), .move (.tmp 26), none, false⟩,
            ⟨(some 9), .move (.tmp 27), none, false⟩])
        (.ret)))
theorem text89 : FnText Try.prog 89 [] 28 4 ac89 [(8, none), (9, none)] :=
  ⟨Try.call89, follows, Try.f89, _, Try.func89, rfl, rfl, by decide, by kernel_rfl, by kernel_rfl⟩

def ac67_L1 : AC :=
  .seq (.seq (.region false [⟨(some 11), .move (.tmp 6), none, false⟩,
          ⟨(some 12), .move (.tmp 7), none, false⟩,
          ⟨(some 13), .bin .lss 3 (.tmp 11) (.tmp 12), none, false⟩])
      (.cond (.tmp 13)
        (.skip)
        (.exit 0)))
    (.block 1 (.seq (.region true [⟨(some 14), .move (.tmp 0), none, false⟩,
            ⟨(some 15), .move (.tmp 6), none, false⟩,
            ⟨(some 16), .move (.tmp 0), none, true⟩,
            ⟨(some 17), .move (.tmp 7), none, true⟩,
            ⟨(some 18), .move (.tmp 0), none, false⟩,
            ⟨(some 19), .move (.tmp 7), none, false⟩,
            ⟨(some 20), .iaddr 1 (.tmp 18) (.tmp 19), none, false⟩,
            ⟨(some 21), .load 1 false (.tmp 20), none, false⟩,
            ⟨(some 22), .move (.tmp 0), none, false⟩,
            ⟨(some 23), .move (.tmp 6), none, false⟩,
            ⟨(some 24), .iaddr 1 (.tmp 22) (.tmp 23), none, false⟩,
            ⟨(some 25), .load 1 false (.tmp 24), none, false⟩,
            ⟨(some 26), .iaddr 1 (.tmp 14) (.tmp 15), none, false⟩,
            ⟨none, .store 1 (.tmp 26) (.tmp 21), none, false⟩,
            ⟨(some 27), .iaddr 1 (.tmp 16) (.tmp 17), none, false⟩,
            ⟨none, .store 1 (.tmp 27) (.tmp 25), none, false⟩])
        (.seq (.region false [⟨(some 28), .move (.tmp 6), none, false⟩,
              ⟨(some 29), .bin .add 3 (.tmp 28) (.const (.int .i64 1)), none, false⟩,
              ⟨(some 6), .move (.tmp 29), none, false⟩])
          (.region false [⟨(some 30), .move (.tmp 7), none, false⟩,
              ⟨(some 31), .bin .sub 3 (.tmp 30) (.const (.int .i64 1)), none, false⟩,
              ⟨(some 7), .move (.tmp 31), none, false⟩]))))
/-- slices.reverseRangeOrdered[int] -/
def ac67 : AC :=
  .seq (.region false [⟨(some 8), .move (.tmp 1), none, false⟩,
        ⟨(some 6), .move (.tmp 8), none, false⟩])
    (.seq (.region false [⟨(some 9), .move (.tmp 2), none, false⟩,
          ⟨(some 10), .bin .sub 3 (.tmp 9) (.const (.int .i64 1)), none, false⟩,
          ⟨(some 7), .move (.tmp 10), none, false⟩])
      (.block 0 (.loop ac67_L1)))
theorem text67 : FnText Try.prog 67 [] 32 3 ac67 [] :=
  ⟨Try.call67, follows, Try.f67, _, Try.func67, rfl, rfl, by decide, by kernel_rfl, by kernel_rfl⟩

def ac68_G1 : List AOper :=
  [⟨(some 21), .move (.tmp 0), (some (20, true)), false⟩,
    ⟨(some 22), .move (.tmp 7), (some (20, true)), false⟩,
    ⟨(some 23), .iaddr 1 (.tmp 21) (.tmp 22), (some (20, true)), false⟩,
    ⟨(some 24), .load 1 false (.tmp 23), (some (20, true)), false⟩,
    ⟨(some 25), .move (.tmp 0), (some (20, true)), false⟩,
    ⟨(some 26), .move (.tmp 7), (some (20, true)), false⟩,
    ⟨(some 27), .bin .sub 3 (.tmp 26) (.const (.int .i64 1)), (some (20, true)), false⟩,
    ⟨(some 28), .iaddr 1 (.tmp 25) (.tmp 27), (some (20, true)), false⟩,
    ⟨(some 29), .load 1 false (.tmp 28), (some (20, true)), false⟩,
    ⟨(some 30), .call (.func 69) [(.tmp 24), (.tmp 29)], (some (20, true)), false⟩,
    ⟨(some 31), .un .not (.tmp 30), (some (20, true)), false⟩,
    ⟨(some 32), .pick (.tmp 20) (.tmp 31) (.const (.bool false)), none, false⟩]
def ac68_L2 : AC :=
  .seq (.seq (.region true (⟨(some 17), .move (.tmp 7), none, false⟩ :: ⟨(some 18), .move (.tmp 2), none, false⟩ :: ⟨(some 19), .bin .lss 3 (.tmp 17) (.tmp 18), none, false⟩ :: ⟨(some 20), .move (.tmp 19), none, false⟩ :: (ac68_G1 ++ [])))
      (.cond (.tmp 32)
        (.skip)
        (.exit 2)))
    (.block 3 (.region false [⟨(some 33), .move (.tmp 7), none, false⟩,
          ⟨(some 34), .bin .add 3 (.tmp 33) (.const (.int .i64 1)), none, false⟩,
          ⟨(some 7), .move (.tmp 34), none, false⟩]))
def ac68_L3 : AC :=
  .seq (.seq (.region false [⟨(some 64), .move (.tmp 9), none, false⟩,
          ⟨(some 65), .bin .geq 3 (.tmp 64) (.const (.int .i64 1)), none, false⟩])
      (.cond (.tmp 65)
        (.skip)
        (.exit 4)))
    (.seq (.block 5 (.seq (.seq (.region true [⟨(some 68), .move (.tmp 0), none, false⟩,
                ⟨(some 69), .move (.tmp 9), none, false⟩,
                ⟨(some 70), .iaddr 1 (.tmp 68) (.tmp 69), none, false⟩,
                ⟨(some 71), .load 1 false (.tmp 70), none, false⟩,
                ⟨(some 72), .move (.tmp 0), none, false⟩,
                ⟨(some 73), .move (.tmp 9), none, false⟩,
                ⟨(some 74), .bin .sub 3 (.tmp 73) (.const (.int .i64 1)), none, false⟩,
                ⟨(some 75), .iaddr 1 (.tmp 72) (.tmp 74), none, false⟩,
                ⟨(some 76), .load 1 false (.tmp 75), none, false⟩,
                ⟨(some 77), .call (.func 69) [(.tmp 71), (.tmp 76)], none, false⟩,
                ⟨(some 78), .un .not (.tmp 77), none, false⟩])
            (.cond (.tmp 78)
              (.exit 4)
              (.skip)))
          (.region true [⟨(some 79), .move (.tmp 0), none, false⟩,
              ⟨(some 80), .move (.tmp 9), none, false⟩,
              ⟨(some 81), .move (.tmp 0), none, true⟩,
              ⟨(some 82), .move (.tmp 9), none, true⟩,
              ⟨(some 83), .bin .sub 3 (.tmp 82) (.const (.int .i64 1)), none, true⟩,
              ⟨(some 84), .move (.tmp 0), none, false⟩,
              ⟨(some 85), .move (.tmp 9), none, false⟩,
              ⟨(some 86), .bin .sub 3 (.tmp 85) (.const (.int .i64 1)), none, false⟩,
              ⟨(some 87), .iaddr 1 (.tmp 84) (.tmp 86), none, false⟩,
              ⟨(some 88), .load 1 false (.tmp 87), none, false⟩,
              ⟨(some 89), .move (.tmp 0), none, false⟩,
              ⟨(some 90), .move (.tmp 9), none, false⟩,
              ⟨(some 91), .iaddr 1 (.tmp 89) (.tmp 90), none, false⟩,
              ⟨(some 92), .load 1 false (.tmp 91), none, false⟩,
              ⟨(some 93), .iaddr 1 (.tmp 79) (.tmp 80), none, false⟩,
              ⟨none, .store 1 (.tmp 93) (.tmp 88), none, false⟩,
              ⟨(some 94), .iaddr 1 (.tmp 81) (.tmp 83), none, false⟩,
              ⟨none, .store 1 (.tmp 94) (.tmp 92), none, false⟩])))
      (.region false [⟨(some 66), .move (.tmp 9), none, false⟩,
          ⟨(some 67), .bin .sub 3 (.tmp 66) (.const (.int .i64 1)), none, false⟩,
          ⟨(some 9), .move (.tmp 67), none, false⟩]))
def ac68_L4 : AC :=
  .seq (.seq (.region false [⟨(some 101), .move (.tmp 10), none, false⟩,
          ⟨(some 102), .move (.tmp 2), none, false⟩,
          ⟨(some 103), .bin .lss 3 (.tmp 101) (.tmp 102), none, false⟩])
      (.cond (.tmp 103)
        (.skip)
        (.exit 6)))
    (.seq (.block 7 (.seq (.seq (.region true [⟨(some 106), .move (.tmp 0), none, false⟩,
                ⟨(some 107), .move (.tmp 10), none, false⟩,
                ⟨(some 108), .iaddr 1 (.tmp 106) (.tmp 107), none, false⟩,
                ⟨(some 109), .load 1 false (.tmp 108), none, false⟩,
                ⟨(some 110), .move (.tmp 0), none, false⟩,
                ⟨(some 111), .move (.tmp 10), none, false⟩,
                ⟨(some 112), .bin .sub 3 (.tmp 111) (.const (.int .i64 1)), none, false⟩,
                ⟨(some 113), .iaddr 1 (.tmp 110) (.tmp 112), none, false⟩,
                ⟨(some 114), .load 1 false (.tmp 113), none, false⟩,
                ⟨(some 115), .call (.func 69) [(.tmp 109), (.tmp 114)], none, false⟩,
                ⟨(some 116), .un .not (.tmp 115), none, false⟩])
            (.cond (.tmp 116)
              (.exit 6)
              (.skip)))
          (.region true [⟨(some 117), .move (.tmp 0), none, false⟩,
              ⟨(some 118), .move (.tmp 10), none, false⟩,
              ⟨(some 119), .move (.tmp 0), none, true⟩,
              ⟨(some 120), .move (.tmp 10), none, true⟩,
              ⟨(some 121), .bin .sub 3 (.tmp 120) (.const (.int .i64 1)), none, true⟩,
              ⟨(some 122), .move (.tmp 0), none, false⟩,
              ⟨(some 123), .move (.tmp 10), none, false⟩,
              ⟨(some 124), .bin .sub 3 (.tmp 123) (.const (.int .i64 1)), none, false⟩,
              ⟨(some 125), .iaddr 1 (.tmp 122) (.tmp 124), none, false⟩,
              ⟨(some 126), .load 1 false (.tmp 125), none, false⟩,
              ⟨(some 127), .move (.tmp 0), none, false⟩,
              ⟨(some 128), .move (.tmp 10), none, false⟩,
              ⟨(some 129), .iaddr 1 (.tmp 127) (.tmp 128), none, false⟩,
              ⟨(some 130), .load 1 false (.tmp 129), none, false⟩,
              ⟨(some 131), .iaddr 1 (.tmp 117) (.tmp 118), none, false⟩,
              ⟨none, .store 1 (.tmp 131) (.tmp 126), none, false⟩,
              ⟨(some 132), .iaddr 1 (.tmp 119) (.tmp 121), none, false⟩,
              ⟨none, .store 1 (.tmp 132) (.tmp 130), none, false⟩])))
      (.region false [⟨(some 104), .move (.tmp 10), none, false⟩,
          ⟨(some 105), .bin .add 3 (.tmp 104) (.const (.int .i64 1)), none, false⟩,
          ⟨(some 10), .move (.tmp 105), none, false⟩]))
def ac68_L1 : AC :=
  .seq (.seq (.region false [⟨(some 13), .move (.tmp 8), none, false⟩,
          ⟨(some 14), .bin .lss 3 (.tmp 13) (.const (.int .i64 5)), none, false⟩])
      (.cond (.tmp 14)
        (.skip)
        (.exit 0)))
    (.seq (.block 1 (.seq (.block 2 (.loop ac68_L2))
          (.seq (.seq (.region false [⟨(some 35), .move (.tmp 7), none, false⟩,
                  ⟨(some 36), .move (.tmp 2), none, false⟩,
                  ⟨(some 37), .bin .eql 3 (.tmp 35) (.tmp 36), none, false⟩])
              (.cond (.tmp 37)
                (.seq (.region false [⟨(some 6), .move (.const (.bool true)), none, false⟩])
                  (.ret))
                (.skip)))
            (.seq (.seq (.region false [⟨(some 38), .move (.tmp 2), none, false⟩,
                    ⟨(some 39), .move (.tmp 1), none, false⟩,
                    ⟨(some 40), .bin .sub 3 (.tmp 38) (.tmp 39), none, false⟩,
                    ⟨(some 41), .bin .lss 3 (.tmp 40) (.const (.int .i64 50)), none, false⟩])
                (.cond (.tmp 41)
                  (.seq (.region false [⟨(some 6), .move (.const (.bool false)), none, false⟩])
                    (.ret))
                  (.skip)))
              (.seq (.region true [⟨(some 42), .move (.tmp 0), none, false⟩,
                    ⟨(some 43), .move (.tmp 7), none, false⟩,
                    ⟨(some 44), .move (.tmp 0), none, true⟩,
                    ⟨(some 45), .move (.tmp 7), none, true⟩,
                    ⟨(some 46), .bin .sub 3 (.tmp 45) (.const (.int .i64 1)), none, true⟩,
                    ⟨(some 47), .move (.tmp 0), none, false⟩,
                    ⟨(some 48), .move (.tmp 7), none, false⟩,
                    ⟨(some 49), .bin .sub 3 (.tmp 48) (.const (.int .i64 1)), none, false⟩,
                    ⟨(some 50), .iaddr 1 (.tmp 47) (.tmp 49), none, false⟩,
                    ⟨(some 51), .load 1 false (.tmp 50), none, false⟩,
                    ⟨(some 52), .move (.tmp 0), none, false⟩,
                    ⟨(some 53), .move (.tmp 7), none, false⟩,
                    ⟨(some 54), .iaddr 1 (.tmp 52) (.tmp 53), none, false⟩,
                    ⟨(some 55), .load 1 false (.tmp 54), none, false⟩,
                    ⟨(some 56), .iaddr 1 (.tmp 42) (.tmp 43), none, false⟩,
                    ⟨none, .store 1 (.tmp 56) (.tmp 51), none, false⟩,
                    ⟨(some 57), .iaddr 1 (.tmp 44) (.tmp 46), none, false⟩,
                    ⟨none, .store 1 (.tmp 57) (.tmp 55), none, false⟩])
                (.seq (.seq (.region false [⟨(some 58), .move (.tmp 7), none, false⟩,
                        ⟨(some 59), .move (.tmp 1), none, false⟩,
                        ⟨(some 60), .bin .sub 3 (.tmp 58) (.tmp 59), none, false⟩,
                        ⟨(some 61), .bin .geq 3 (.tmp 60) (.const (.int .i64 2)), none, false⟩])
                    (.cond (.tmp 61)
                      (.seq (.region false [⟨(some 62), .move (.tmp 7), none, false⟩,
                            ⟨(some 63), .bin .sub 3 (.tmp 62) (.const (.int .i64 1)), none, false⟩,
                            ⟨(some 9), .move (.tmp 63), none, false⟩])
                        (.block 4 (.loop ac68_L3)))
                      (.skip)))
                  (.seq (.region false [⟨(some 95), .move (.tmp 2), none, false⟩,
                        ⟨(some 96), .move (.tmp 7), none, false⟩,
                        ⟨(some 97), .bin .sub 3 (.tmp 95) (.tmp 96), none, false⟩,
                        ⟨(some 98), .bin .geq 3 (.tmp 97) (.const (.int .i64 2)), none, false⟩])
                    (.cond (.tmp 98)
                      (.seq (.region false [⟨(some 99), .move (.tmp 7), none, false⟩,
                            ⟨(some 100), .bin .add 3 (.tmp 99) (.const (.int .i64 1)), none, false⟩,
                            ⟨(some 10), .move (.tmp 100), none, false⟩])
                        (.block 6 (.loop ac68_L4)))
                      (.skip)))))))))
      (.region false [⟨(some 15), .move (.tmp 8), none, false⟩,
          ⟨(some 16), .bin .add 3 (.tmp 15) (.const (.int .i64 1)), none, false⟩,
          ⟨(some 8), .move (.tmp 16), none, false⟩]))
/-- slices.partialInsertionSortOrdered[int] -/
def ac68 : AC :=
  .seq (.region false [⟨(some 6), .move (.const (.bool false)), none, false⟩])
    (.seq (.region false [⟨(some 11), .move (.tmp 1), none, false⟩,
          ⟨(some 12), .bin .add 3 (.tmp 11) (.const (.int .i64 1)), none, false⟩,
          ⟨(some 7), .move (.tmp 12), none, false⟩])
      (.seq (.seq (.region false [⟨(some 8), .move (.const (.int .i64 0)), none, false⟩])
          (.block 0 (.loop ac68_L1)))
        (.seq (.region false [⟨(some 6), .move (.const (.bool false)), none, false⟩])
          (.ret))))
theorem text68 : FnText Try.prog 68 [] 133 3 ac68 [(6, none)] :=
  ⟨Try.call68, follows, Try.f68, _, Try.func68, rfl, rfl, by decide, by kernel_rfl, by kernel_rfl⟩

def ac70_G1 : List AOper :=
  [⟨(some 33), .move (.tmp 0), (some (32, true)), false⟩,
    ⟨(some 34), .move (.tmp 1), (some (32, true)), false⟩,
    ⟨(some 35), .iaddr 1 (.tmp 33) (.tmp 34), (some (32, true)), false⟩,
    ⟨(some 36), .load 1 false (.tmp 35), (some (32, true)), false⟩,
    ⟨(some 37), .move (.tmp 0), (some (32, true)), false⟩,
    ⟨(some 38), .move (.tmp 9), (some (32, true)), false⟩,
    ⟨(some 39), .iaddr 1 (.tmp 37) (.tmp 38), (some (32, true)), false⟩,
    ⟨(some 40), .load 1 false (.tmp 39), (some (32, true)), false⟩,
    ⟨(some 41), .call (.func 69) [(.tmp 36), (.tmp 40)], (some (32, true)), false⟩,
    ⟨(some 42), .un .not (.tmp 41), (some (32, true)), false⟩,
    ⟨(some 43), .pick (.tmp 32) (.tmp 42) (.const (.bool false)), none, false⟩]
def ac70_L2 : AC :=
  .seq (.seq (.region true (⟨(some 29), .move (.tmp 9), none, false⟩ :: ⟨(some 30), .move (.tmp 10), none, false⟩ :: ⟨(some 31), .bin .leq 3 (.tmp 29) (.tmp 30), none, false⟩ :: ⟨(some 32), .move (.tmp 31), none, false⟩ :: (ac70_G1 ++ [])))
      (.cond (.tmp 43)
        (.skip)
        (.exit 2)))
    (.block 3 (.region false [⟨(some 44), .move (.tmp 9), none, false⟩,
          ⟨(some 45), .bin .add 3 (.tmp 44) (.const (.int .i64 1)), none, false⟩,
          ⟨(some 9), .move (.tmp 45), none, false⟩]))
def ac70_G2 : List AOper :=
  [⟨(some 50), .move (.tmp 0), (some (49, true)), false⟩,
    ⟨(some 51), .move (.tmp 1), (some (49, true)), false⟩,
    ⟨(some 52), .iaddr 1 (.tmp 50) (.tmp 51), (some (49, true)), false⟩,
    ⟨(some 53), .load 1 false (.tmp 52), (some (49, true)), false⟩,
    ⟨(some 54), .move (.tmp 0), (some (49, true)), false⟩,
    ⟨(some 55), .move (.tmp 10), (some (49, true)), false⟩,
    ⟨(some 56), .iaddr 1 (.tmp 54) (.tmp 55), (some (49, true)), false⟩,
    ⟨(some 57), .load 1 false (.tmp 56), (some (49, true)), false⟩,
    ⟨(some 58), .call (.func 69) [(.tmp 53), (.tmp 57)], (some (49, true)), false⟩,
    ⟨(some 59), .pick (.tmp 49) (.tmp 58) (.const (.bool false)), none, false⟩]
def ac70_L3 : AC :=
  .seq (.seq (.region true (⟨(some 46), .move (.tmp 9), none, false⟩ :: ⟨(some 47), .move (.tmp 10), none, false⟩ :: ⟨(some 48), .bin .leq 3 (.tmp 46) (.tmp 47), none, false⟩ :: ⟨(some 49), .move (.tmp 48), none, false⟩ :: (ac70_G2 ++ [])))
      (.cond (.tmp 59)
        (.skip)
        (.exit 4)))
    (.block 5 (.region false [⟨(some 60), .move (.tmp 10), none, false⟩,
          ⟨(some 61), .bin .sub 3 (.tmp 60) (.const (.int .i64 1)), none, false⟩,
          ⟨(some 10), .move (.tmp 61), none, false⟩]))
def ac70_L1 : AC :=
  .block 1 (.seq (.block 2 (.loop ac70_L2))
      (.seq (.block 4 (.loop ac70_L3))
        (.seq (.seq (.region false [⟨(some 62), .move (.tmp 9), none, false⟩,
                ⟨(some 63), .move (.tmp 10), none, false⟩,
                ⟨(some 64), .bin .gtr 3 (.tmp 62) (.tmp 63), none, false⟩])
            (.cond (.tmp 64)
              (.exit 0)
              (.skip)))
          (.seq (.region true [⟨(some 65), .move (.tmp 0), none, false⟩,
                ⟨(some 66), .move (.tmp 9), none, false⟩,
                ⟨(some 67), .move (.tmp 0), none, true⟩,
                ⟨(some 68), .move (.tmp 10), none, true⟩,
                ⟨(some 69), .move (.tmp 0), none, false⟩,
                ⟨(some 70), .move (.tmp 10), none, false⟩,
                ⟨(some 71), .iaddr 1 (.tmp 69) (.tmp 70), none, false⟩,
                ⟨(some 72), .load 1 false (.tmp 71), none, false⟩,
                ⟨(some 73), .move (.tmp 0), none, false⟩,
                ⟨(some 74), .move (.tmp 9), none, false⟩,
                ⟨(some 75), .iaddr 1 (.tmp 73) (.tmp 74), none, false⟩,
                ⟨(some 76), .load 1 false (.tmp 75), none, false⟩,
                ⟨(some 77), .iaddr 1 (.tmp 65) (.tmp 66), none, false⟩,
                ⟨none, .store 1 (.tmp 77) (.tmp 72), none, false⟩,
                ⟨(some 78), .iaddr 1 (.tmp 67) (.tmp 68), none, false⟩,
                ⟨none, .store 1 (.tmp 78) (.tmp 76), none, false⟩])
            (.seq (.region false [⟨(some 79), .move (.tmp 9), none, false⟩,
                  ⟨(some 80), .bin .add 3 (.tmp 79) (.const (.int .i64 1)), none, false⟩,
                  ⟨(some 9), .move (.tmp 80), none, false⟩])
              (.region false [⟨(some 81), .move (.tmp 10), none, false⟩,
                  ⟨(some 82), .bin .sub 3 (.tmp 81) (.const (.int .i64 1)), none, false⟩,
                  ⟨(some 10), .move (.tmp 82), none, false⟩]))))))
/-- slices.partitionEqualOrdered[int] -/
def ac70 : AC :=
  .seq (.region false [⟨(some 8), .move (.const (.int .i64 0)), none, false⟩])
    (.seq (.region true [⟨(some 11), .move (.tmp 0), none, false⟩,
          ⟨(some 12), .move (.tmp 1), none, false⟩,
          ⟨(some 13), .move (.tmp 0), none, true⟩,
          ⟨(some 14), .move (.tmp 3), none, true⟩,
          ⟨(some 15), .move (.tmp 0), none, false⟩,
          ⟨(some 16), .move (.tmp 3), none, false⟩,
          ⟨(some 17), .iaddr 1 (.tmp 15) (.tmp 16), none, false⟩,
          ⟨(some 18), .load 1 false (.tmp 17), none, false⟩,
          ⟨(some 19), .move (.tmp 0), none, false⟩,
          ⟨(some 20), .move (.tmp 1), none, false⟩,
          ⟨(some 21), .iaddr 1 (.tmp 19) (.tmp 20), none, false⟩,
          ⟨(some 22), .load 1 false (.tmp 21), none, false⟩,
          ⟨(some 23), .iaddr 1 (.tmp 11) (.tmp 12), none, false⟩,
          ⟨none, .store 1 (.tmp 23) (.tmp 18), none, false⟩,
          ⟨(some 24), .iaddr 1 (.tmp 13) (.tmp 14), none, false⟩,
          ⟨none, .store 1 (.tmp 24) (.tmp 22), none, false⟩])
      (.seq (.region false [⟨(some 25), .move (.tmp 1), none, false⟩,
            ⟨(some 26), .bin .add 3 (.tmp 25) (.const (.int .i64 1)), none, false⟩,
            ⟨(some 27), .move (.tmp 2), none, false⟩,
            ⟨(some 28), .bin .sub 3 (.tmp 27) (.const (.int .i64 1)), none, false⟩,
            ⟨(some 9), .move (.tmp 26), none, false⟩,
            ⟨(some 10), .move (.tmp 28), none, false⟩])
        (.seq (.block 0 (.loop ac70_L1))
          (.seq (.region false [⟨(some 83), .move (.tmp 9), none, false⟩,
                ⟨(some 8), .move (.tmp 83), none, false⟩])
            (.ret)))))
theorem text70 : FnText Try.prog 70 [] 84 4 ac70 [(8, none)] :=
  ⟨Try.call70, follows, Try.f70, _, Try.func70, rfl, rfl, by decide, by kernel_rfl, by kernel_rfl⟩

end Go.Proofs.Ytepkgeppmjmkjaa
