/-
  The text of each function of this seat, as the plain library tells it; each by the kernel's own reckoning from the program.
-/
import Derived.Test.YtkgnjpoafilicaaPbWp
import Derived.Test.YtkgnjpoafilicaaRows
set_option linter.unusedVariables false
set_option maxRecDepth 100000
namespace Go.Proofs.Ytkgnjpoafilicaa
open Go Go.Pb
theorem follows : Try.prog.follows .mixedOrders = true := by kernel_rfl
def ac33_L1 : AC :=
  .seq (.seq (.region false [⟨(some 7), .move (.tmp 3), none, false⟩,
          ⟨(some 8), .move (.tmp 0), none, false⟩,
          ⟨(some 9), .bi .len [48].toArray 3 [(.tmp 8)], none, false⟩,
          ⟨(some 10), .bin .lss 3 (.tmp 7) (.tmp 9), none, false⟩])
      (.cond (.tmp 10)
        (.skip)
        (.exit 0)))
    (.seq (.block 1 (.seq (.region false [⟨(some 13), .move (.tmp 0), none, false⟩,
              ⟨(some 14), .move (.tmp 3), none, false⟩,
              ⟨(some 15), .iaddr 3 (.tmp 13) (.tmp 14), none, false⟩,
              ⟨(some 16), .faddr 2 1 false (.tmp 15), none, false⟩,
              ⟨(some 17), .load 1 false (.tmp 16), none, false⟩,
              ⟨(some 18), .bi .len [56].toArray 3 [(.tmp 17)], none, false⟩,
              ⟨(some 19), .bin .gtr 3 (.tmp 18) (.const (.int .i64 40)), none, false⟩])
          (.cond (.tmp 19)
            (.seq (.region false [⟨(some 2), .move (.const (.bool false)), none, false⟩])
              (.ret))
            (.skip))))
      (.region false [⟨(some 11), .move (.tmp 3), none, false⟩,
          ⟨(some 12), .bin .add 3 (.tmp 11) (.const (.int .i64 1)), none, false⟩,
          ⟨(some 3), .move (.tmp 12), none, false⟩]))
/-- patchbay/patchbaylaw32.small -/
def ac33 : AC :=
  .seq (.region false [⟨(some 2), .move (.const (.bool false)), none, false⟩])
    (.seq (.seq (.region false [⟨(some 4), .move (.tmp 0), none, false⟩,
            ⟨(some 5), .bi .len [48].toArray 3 [(.tmp 4)], none, false⟩,
            ⟨(some 6), .bin .gtr 3 (.tmp 5) (.const (.int .i64 60)), none, false⟩])
        (.cond (.tmp 6)
          (.seq (.region false [⟨(some 2), .move (.const (.bool false)), none, false⟩])
            (.ret))
          (.skip)))
      (.seq (.seq (.region false [⟨(some 3), .move (.const (.int .i64 0)), none, false⟩])
          (.block 0 (.loop ac33_L1)))
        (.seq (.region false [⟨(some 2), .move (.const (.bool true)), none, false⟩])
          (.ret))))
theorem text33 : FnText Try.prog 33 [] 20 1 ac33 [(2, none)] :=
  ⟨Try.call33, follows, Try.f33, _, Try.func33, rfl, rfl, by decide, by kernel_rfl, by kernel_rfl⟩

def ac29_G1 : List AOper :=
  [⟨(some 9), .move (.tmp 1), (some (8, false)), false⟩,
    ⟨(some 10), .iaddr 3 (.tmp 9) (.const (.int .i64 0)), (some (8, false)), false⟩,
    ⟨(some 11), .faddr 0 1 false (.tmp 10), (some (8, false)), false⟩,
    ⟨(some 12), .load 1 false (.tmp 11), (some (8, false)), false⟩,
    ⟨(some 13), .bin .neq 3 (.tmp 12) (.const (.int .i64 0)), (some (8, false)), false⟩,
    ⟨(some 14), .pick (.tmp 8) (.const (.bool true)) (.tmp 13), none, false⟩]
def ac29_G2 : List AOper :=
  [⟨(some 16), .move (.tmp 1), (some (15, false)), false⟩,
    ⟨(some 17), .iaddr 3 (.tmp 16) (.const (.int .i64 1)), (some (15, false)), false⟩,
    ⟨(some 18), .faddr 0 1 false (.tmp 17), (some (15, false)), false⟩,
    ⟨(some 19), .load 1 false (.tmp 18), (some (15, false)), false⟩,
    ⟨(some 20), .bin .neq 3 (.tmp 19) (.const (.int .i64 (-1))), (some (15, false)), false⟩,
    ⟨(some 21), .pick (.tmp 15) (.const (.bool true)) (.tmp 20), none, false⟩]
def ac29_G3 : List AOper :=
  [⟨(some 23), .move (.tmp 1), (some (22, false)), false⟩,
    ⟨(some 24), .iaddr 3 (.tmp 23) (.const (.int .i64 2)), (some (22, false)), false⟩,
    ⟨(some 25), .faddr 0 1 false (.tmp 24), (some (22, false)), false⟩,
    ⟨(some 26), .load 1 false (.tmp 25), (some (22, false)), false⟩,
    ⟨(some 27), .bin .neq 3 (.tmp 26) (.const (.int .i64 1)), (some (22, false)), false⟩,
    ⟨(some 28), .pick (.tmp 22) (.const (.bool true)) (.tmp 27), none, false⟩]
def ac29_G4 : List AOper :=
  [⟨(some 30), .move (.tmp 1), (some (29, false)), false⟩,
    ⟨(some 31), .iaddr 3 (.tmp 30) (.const (.int .i64 3)), (some (29, false)), false⟩,
    ⟨(some 32), .faddr 0 1 false (.tmp 31), (some (29, false)), false⟩,
    ⟨(some 33), .load 1 false (.tmp 32), (some (29, false)), false⟩,
    ⟨(some 34), .bin .neq 3 (.tmp 33) (.const (.int .i64 2)), (some (29, false)), false⟩,
    ⟨(some 35), .pick (.tmp 29) (.const (.bool true)) (.tmp 34), none, false⟩]
def ac29_G5 : List AOper :=
  [⟨(some 37), .move (.tmp 1), (some (36, false)), false⟩,
    ⟨(some 38), .iaddr 3 (.tmp 37) (.const (.int .i64 2)), (some (36, false)), false⟩,
    ⟨(some 39), .faddr 2 1 false (.tmp 38), (some (36, false)), false⟩,
    ⟨(some 40), .load 1 false (.tmp 39), (some (36, false)), false⟩,
    ⟨(some 41), .bi .len [56].toArray 3 [(.tmp 40)], (some (36, false)), false⟩,
    ⟨(some 42), .bin .neq 3 (.tmp 41) (.const (.int .i64 1)), (some (36, false)), false⟩,
    ⟨(some 43), .pick (.tmp 36) (.const (.bool true)) (.tmp 42), none, false⟩]
def ac29_G6 : List AOper :=
  [⟨(some 45), .move (.tmp 1), (some (44, false)), false⟩,
    ⟨(some 46), .iaddr 3 (.tmp 45) (.const (.int .i64 3)), (some (44, false)), false⟩,
    ⟨(some 47), .faddr 2 1 false (.tmp 46), (some (44, false)), false⟩,
    ⟨(some 48), .load 1 false (.tmp 47), (some (44, false)), false⟩,
    ⟨(some 49), .bi .len [56].toArray 3 [(.tmp 48)], (some (44, false)), false⟩,
    ⟨(some 50), .bin .neq 3 (.tmp 49) (.const (.int .i64 1)), (some (44, false)), false⟩,
    ⟨(some 51), .pick (.tmp 44) (.const (.bool true)) (.tmp 50), none, false⟩]
def ac29_G7 : List AOper :=
  [⟨(some 53), .move (.tmp 1), (some (52, false)), false⟩,
    ⟨(some 54), .iaddr 3 (.tmp 53) (.const (.int .i64 1)), (some (52, false)), false⟩,
    ⟨(some 55), .faddr 1 1 false (.tmp 54), (some (52, false)), false⟩,
    ⟨(some 56), .load 1 false (.tmp 55), (some (52, false)), false⟩,
    ⟨(some 57), .bi .len [38].toArray 3 [(.tmp 56)], (some (52, false)), false⟩,
    ⟨(some 58), .bin .neq 3 (.tmp 57) (.const (.int .i64 1)), (some (52, false)), false⟩,
    ⟨(some 59), .pick (.tmp 52) (.const (.bool true)) (.tmp 58), none, false⟩]
def ac29_G8 : List AOper :=
  [⟨(some 70), .move (.tmp 1), (some (69, true)), false⟩,
    ⟨(some 71), .iaddr 3 (.tmp 70) (.const (.int .i64 3)), (some (69, true)), false⟩,
    ⟨(some 72), .faddr 2 1 false (.tmp 71), (some (69, true)), false⟩,
    ⟨(some 73), .load 1 false (.tmp 72), (some (69, true)), false⟩,
    ⟨(some 74), .iaddr 2 (.tmp 73) (.const (.int .i64 0)), (some (69, true)), false⟩,
    ⟨(some 75), .load 2 true (.tmp 74), (some (69, true)), false⟩,
    ⟨(some 76), .build [(.int .i64 0), (.bool false)] [(0, 1, (.const (.int .i64 1)))], (some (69, true)), false⟩,
    ⟨(some 77), .bin .eql 60 (.tmp 75) (.tmp 76), (some (69, true)), false⟩,
    ⟨(some 78), .pick (.tmp 69) (.tmp 77) (.const (.bool false)), none, false⟩]
def ac29_G9 : List AOper :=
  [⟨(some 80), .move (.tmp 1), (some (79, true)), false⟩,
    ⟨(some 81), .call (.func 36) [(.tmp 80), (.const (.int .i64 2)), (.const (.int .i64 3))], (some (79, true)), false⟩,
    ⟨(some 82), .pick (.tmp 79) (.tmp 81) (.const (.bool false)), none, false⟩]
def ac29_G10 : List AOper :=
  [⟨(some 84), .move (.tmp 1), (some (83, true)), false⟩,
    ⟨(some 85), .call (.func 36) [(.tmp 84), (.const (.int .i64 0)), (.const (.int .i64 2))], (some (83, true)), false⟩,
    ⟨(some 86), .un .not (.tmp 85), (some (83, true)), false⟩,
    ⟨(some 87), .pick (.tmp 83) (.tmp 86) (.const (.bool false)), none, false⟩]
def ac29_G11 : List AOper :=
  [⟨(some 89), .move (.tmp 1), (some (88, true)), false⟩,
    ⟨(some 90), .move (.tmp 2), (some (88, true)), false⟩,
    ⟨(some 91), .call (.func 34) [(.tmp 89), (.tmp 90), (.const (.int .i64 2))], (some (88, true)), false⟩,
    ⟨(some 92), .pick (.tmp 88) (.tmp 91) (.const (.bool false)), none, false⟩]
def ac29_G12 : List AOper :=
  [⟨(some 94), .move (.tmp 1), (some (93, true)), false⟩,
    ⟨(some 95), .move (.tmp 2), (some (93, true)), false⟩,
    ⟨(some 96), .call (.func 34) [(.tmp 94), (.tmp 95), (.const (.int .i64 3))], (some (93, true)), false⟩,
    ⟨(some 97), .un .not (.tmp 96), (some (93, true)), false⟩,
    ⟨(some 98), .pick (.tmp 93) (.tmp 97) (.const (.bool false)), none, false⟩]
def ac29_G13 : List AOper :=
  [⟨(some 100), .move (.tmp 1), (some (99, true)), false⟩,
    ⟨(some 101), .move (.tmp 2), (some (99, true)), false⟩,
    ⟨(some 102), .call (.func 34) [(.tmp 100), (.tmp 101), (.const (.int .i64 0))], (some (99, true)), false⟩,
    ⟨(some 103), .pick (.tmp 99) (.tmp 102) (.const (.bool false)), none, false⟩]
/-- patchbay/patchbaylaw32.awake -/
def ac29 : AC :=
  .seq (.region false [⟨(some 0), .move (.const (.bool false)), none, false⟩])
    (.seq (.region false [⟨(some 3), .call (.func 62) [], none, false⟩,
          ⟨(some 4), .call (.func 31) [(.tmp 3)], none, false⟩,
          ⟨(some 1), .move (.tmp 4), none, false⟩])
      (.seq (.seq (.region false (⟨(some 5), .move (.tmp 1), none, false⟩ :: ⟨(some 6), .bi .len [48].toArray 3 [(.tmp 5)], none, false⟩ :: ⟨(some 7), .bin .neq 3 (.tmp 6) (.const (.int .i64 4)), none, false⟩ :: ⟨(some 8), .move (.tmp 7), none, false⟩ :: (ac29_G1 ++ (⟨(some 15), .move (.tmp 14), none, false⟩ :: (ac29_G2 ++ (⟨(some 22), .move (.tmp 21), none, false⟩ :: (ac29_G3 ++ (⟨(some 29), .move (.tmp 28), none, false⟩ :: (ac29_G4 ++ (⟨(some 36), .move (.tmp 35), none, false⟩ :: (ac29_G5 ++ (⟨(some 44), .move (.tmp 43), none, false⟩ :: (ac29_G6 ++ (⟨(some 52), .move (.tmp 51), none, false⟩ :: (ac29_G7 ++ [])))))))))))))))
          (.cond (.tmp 59)
            (.seq (.region false [⟨(some 0), .move (.const (.bool false)), none, false⟩])
              (.ret))
            (.skip)))
        (.seq (.region false [⟨(some 60), .bslice false 4 1 false [(.const (.bool false)), (.const (.bool true)), (.const (.bool false)), (.const (.bool false))], none, false⟩,
              ⟨(some 2), .move (.tmp 60), none, false⟩])
          (.seq (.region false (⟨(some 61), .move (.tmp 1), none, false⟩ :: ⟨(some 62), .iaddr 3 (.tmp 61) (.const (.int .i64 2)), none, false⟩ :: ⟨(some 63), .faddr 2 1 false (.tmp 62), none, false⟩ :: ⟨(some 64), .load 1 false (.tmp 63), none, false⟩ :: ⟨(some 65), .iaddr 2 (.tmp 64) (.const (.int .i64 0)), none, false⟩ :: ⟨(some 66), .load 2 true (.tmp 65), none, false⟩ :: ⟨(some 67), .build [(.int .i64 0), (.bool false)] [(0, 1, (.const (.int .i64 1))), (1, 1, (.const (.bool true)))], none, false⟩ :: ⟨(some 68), .bin .eql 60 (.tmp 66) (.tmp 67), none, false⟩ :: ⟨(some 69), .move (.tmp 68), none, false⟩ :: (ac29_G8 ++ (⟨(some 79), .move (.tmp 78), none, false⟩ :: (ac29_G9 ++ (⟨(some 83), .move (.tmp 82), none, false⟩ :: (ac29_G10 ++ (⟨(some 88), .move (.tmp 87), none, false⟩ :: (ac29_G11 ++ (⟨(some 93), .move (.tmp 92), none, false⟩ :: (ac29_G12 ++ (⟨(some 99), .move (.tmp 98), none, false⟩ :: (ac29_G13 ++ [⟨(some 0), .move (.tmp 103), none, false⟩])))))))))))))
            (.ret)))))
theorem text29 : FnText Try.prog 29 [] 104 0 ac29 [(0, none)] :=
  ⟨Try.call29, follows, Try.f29, _, Try.func29, rfl, rfl, by decide, by kernel_rfl, by kernel_rfl⟩

def ac34_G1 : List AOper :=
  [⟨(some 12), .move (.tmp 2), (some (11, false)), false⟩,
    ⟨(some 13), .move (.tmp 0), (some (11, false)), false⟩,
    ⟨(some 14), .bi .len [48].toArray 3 [(.tmp 13)], (some (11, false)), false⟩,
    ⟨(some 15), .bin .geq 3 (.tmp 12) (.tmp 14), (some (11, false)), false⟩,
    ⟨(some 16), .pick (.tmp 11) (.const (.bool true)) (.tmp 15), none, false⟩]
def ac34_G2 : List AOper :=
  [⟨(some 31), .faddr 0 1 false (.tmp 8), (some (30, true)), false⟩,
    ⟨(some 32), .load 1 false (.tmp 31), (some (30, true)), false⟩,
    ⟨(some 33), .move (.tmp 1), (some (30, true)), false⟩,
    ⟨(some 34), .bi .len [50].toArray 3 [(.tmp 33)], (some (30, true)), false⟩,
    ⟨(some 35), .bin .lss 3 (.tmp 32) (.tmp 34), (some (30, true)), false⟩,
    ⟨(some 36), .pick (.tmp 30) (.tmp 35) (.const (.bool false)), none, false⟩]
def ac34_G3 : List AOper :=
  [⟨(some 38), .move (.tmp 1), (some (37, true)), false⟩,
    ⟨(some 39), .faddr 0 1 false (.tmp 8), (some (37, true)), false⟩,
    ⟨(some 40), .load 1 false (.tmp 39), (some (37, true)), false⟩,
    ⟨(some 41), .iaddr 1 (.tmp 38) (.tmp 40), (some (37, true)), false⟩,
    ⟨(some 42), .load 1 false (.tmp 41), (some (37, true)), false⟩,
    ⟨(some 43), .pick (.tmp 37) (.tmp 42) (.const (.bool false)), none, false⟩]
def ac34_L1 : AC :=
  .seq (.region false [⟨(some 24), .bin .lss 3 (.tmp 23) (.tmp 22), none, false⟩])
    (.seq (.cond (.tmp 24)
        (.skip)
        (.exit 0))
      (.seq (.block 1 (.seq (.region false [⟨(some 25), .iaddr 2 (.tmp 21) (.tmp 23), none, false⟩,
                ⟨(some 26), .load 2 true (.tmp 25), none, false⟩,
                ⟨(some 8), .alloc true 60 (.agg [(.int .i64 0), (.bool false)].toArray), none, false⟩,
                ⟨none, .store 2 (.tmp 8) (.tmp 26), none, false⟩])
            (.seq (.region true (⟨(some 27), .faddr 0 1 false (.tmp 8), none, false⟩ :: ⟨(some 28), .load 1 false (.tmp 27), none, false⟩ :: ⟨(some 29), .bin .geq 3 (.tmp 28) (.const (.int .i64 0)), none, false⟩ :: ⟨(some 30), .move (.tmp 29), none, false⟩ :: (ac34_G2 ++ (⟨(some 37), .move (.tmp 36), none, false⟩ :: (ac34_G3 ++ [⟨(some 44), .faddr 1 1 false (.tmp 8), none, false⟩,
                  ⟨(some 45), .load 1 false (.tmp 44), none, false⟩,
                  ⟨(some 46), .bin .neq 4 (.tmp 43) (.tmp 45), none, false⟩])))))
              (.cond (.tmp 46)
                (.seq (.region false [⟨(some 6), .move (.const (.bool false)), none, false⟩])
                  (.ret))
                (.skip)))))
        (.region false [⟨(some 47), .bin .add 3 (.tmp 23) (.const (.int .i64 1)), none, false⟩,
            ⟨(some 23), .move (.tmp 47), none, false⟩])))
/-- patchbay/units.Executes -/
def ac34 : AC :=
  .seq (.region false [⟨(some 6), .move (.const (.bool false)), none, false⟩])
    (.seq (.seq (.region false (⟨(some 9), .move (.tmp 2), none, false⟩ :: ⟨(some 10), .bin .lss 3 (.tmp 9) (.const (.int .i64 0)), none, false⟩ :: ⟨(some 11), .move (.tmp 10), none, false⟩ :: (ac34_G1 ++ [])))
        (.cond (.tmp 16)
          (.seq (.region false [⟨(some 6), .move (.const (.bool false)), none, false⟩])
            (.ret))
          (.skip)))
      (.seq (.seq (.region false [⟨(some 17), .move (.tmp 0), none, false⟩,
              ⟨(some 18), .move (.tmp 2), none, false⟩,
              ⟨(some 19), .iaddr 3 (.tmp 17) (.tmp 18), none, false⟩,
              ⟨(some 20), .faddr 2 1 false (.tmp 19), none, false⟩,
              ⟨(some 21), .load 1 false (.tmp 20), none, false⟩,
              ⟨(some 22), .bi .len [56].toArray 3 [(.tmp 21)], none, false⟩,
              ⟨(some 23), .move (.const (.int .i64 0)), none, false⟩])
          (.block 0 (.loop ac34_L1)))
        (.seq (.region false [⟨(some 6), .move (.const (.bool true)), none, false⟩])
          (.ret))))
theorem text34 : FnText Try.prog 34 [8] 48 3 ac34 [(6, none)] :=
  ⟨Try.call34, follows, Try.f34, _, Try.func34, rfl, rfl, by decide, by kernel_rfl, by kernel_rfl⟩

def ac35_G1 : List AOper :=
  [⟨(some 13), .move (.tmp 2), (some (12, false)), false⟩,
    ⟨(some 14), .move (.tmp 0), (some (12, false)), false⟩,
    ⟨(some 15), .bi .len [48].toArray 3 [(.tmp 14)], (some (12, false)), false⟩,
    ⟨(some 16), .bin .geq 3 (.tmp 13) (.tmp 15), (some (12, false)), false⟩,
    ⟨(some 17), .pick (.tmp 12) (.const (.bool true)) (.tmp 16), none, false⟩]
def ac35_G2 : List AOper :=
  [⟨(some 40), .faddr 0 1 false (.tmp 8), (some (39, true)), false⟩,
    ⟨(some 41), .load 1 false (.tmp 40), (some (39, true)), false⟩,
    ⟨(some 42), .move (.tmp 1), (some (39, true)), false⟩,
    ⟨(some 43), .bi .len [50].toArray 3 [(.tmp 42)], (some (39, true)), false⟩,
    ⟨(some 44), .bin .lss 3 (.tmp 41) (.tmp 43), (some (39, true)), false⟩,
    ⟨(some 45), .pick (.tmp 39) (.tmp 44) (.const (.bool false)), none, false⟩]
def ac35_G3 : List AOper :=
  [⟨(some 47), .move (.tmp 1), (some (46, true)), false⟩,
    ⟨(some 48), .faddr 0 1 false (.tmp 8), (some (46, true)), false⟩,
    ⟨(some 49), .load 1 false (.tmp 48), (some (46, true)), false⟩,
    ⟨(some 50), .iaddr 1 (.tmp 47) (.tmp 49), (some (46, true)), false⟩,
    ⟨(some 51), .load 1 false (.tmp 50), (some (46, true)), false⟩,
    ⟨(some 52), .pick (.tmp 46) (.tmp 51) (.const (.bool false)), none, false⟩]
def ac35_L1 : AC :=
  .seq (.seq (.region false [⟨(some 18), .move (.tmp 7), none, false⟩,
          ⟨(some 19), .move (.tmp 0), none, false⟩,
          ⟨(some 20), .move (.tmp 2), none, false⟩,
          ⟨(some 21), .iaddr 3 (.tmp 19) (.tmp 20), none, false⟩,
          ⟨(some 22), .faddr 2 1 false (.tmp 21), none, false⟩,
          ⟨(some 23), .load 1 false (.tmp 22), none, false⟩,
          ⟨(some 24), .bi .len [56].toArray 3 [(.tmp 23)], none, false⟩,
          ⟨(some 25), .bin .lss 3 (.tmp 18) (.tmp 24), none, false⟩])
      (.cond (.tmp 25)
        (.skip)
        (.exit 0)))
    (.seq (.block 1 (.seq (.region false [⟨(some 28), .move (.tmp 0), none, false⟩,
              ⟨(some 29), .move (.tmp 2), none, false⟩,
              ⟨(some 30), .iaddr 3 (.tmp 28) (.tmp 29), none, false⟩,
              ⟨(some 31), .faddr 2 1 false (.tmp 30), none, false⟩,
              ⟨(some 32), .load 1 false (.tmp 31), none, false⟩,
              ⟨(some 33), .move (.tmp 7), none, false⟩,
              ⟨(some 34), .iaddr 2 (.tmp 32) (.tmp 33), none, false⟩,
              ⟨(some 35), .load 2 true (.tmp 34), none, false⟩,
              ⟨(some 8), .alloc true 60 (.agg [(.int .i64 0), (.bool false)].toArray), none, false⟩,
              ⟨none, .store 2 (.tmp 8) (.tmp 35), none, false⟩])
          (.seq (.region false (⟨(some 36), .faddr 0 1 false (.tmp 8), none, false⟩ :: ⟨(some 37), .load 1 false (.tmp 36), none, false⟩ :: ⟨(some 38), .bin .geq 3 (.tmp 37) (.const (.int .i64 0)), none, false⟩ :: ⟨(some 39), .move (.tmp 38), none, false⟩ :: (ac35_G2 ++ (⟨(some 46), .move (.tmp 45), none, false⟩ :: (ac35_G3 ++ [⟨(some 9), .move (.tmp 52), none, false⟩])))))
            (.seq (.region false [⟨(some 53), .move (.tmp 9), none, false⟩,
                  ⟨(some 54), .faddr 1 1 false (.tmp 8), none, false⟩,
                  ⟨(some 55), .load 1 false (.tmp 54), none, false⟩,
                  ⟨(some 56), .bin .neq 4 (.tmp 53) (.tmp 55), none, false⟩])
              (.cond (.tmp 56)
                (.seq (.region false [⟨(some 6), .move (.const (.bool false)), none, false⟩])
                  (.ret))
                (.skip))))))
      (.region false [⟨(some 26), .move (.tmp 7), none, false⟩,
          ⟨(some 27), .bin .add 3 (.tmp 26) (.const (.int .i64 1)), none, false⟩,
          ⟨(some 7), .move (.tmp 27), none, false⟩]))
/-- patchbay/patchbayref32.Executes -/
def ac35 : AC :=
  .seq (.region false [⟨(some 6), .move (.const (.bool false)), none, false⟩])
    (.seq (.seq (.region false (⟨(some 10), .move (.tmp 2), none, false⟩ :: ⟨(some 11), .bin .lss 3 (.tmp 10) (.const (.int .i64 0)), none, false⟩ :: ⟨(some 12), .move (.tmp 11), none, false⟩ :: (ac35_G1 ++ [])))
        (.cond (.tmp 17)
          (.seq (.region false [⟨(some 6), .move (.const (.bool false)), none, false⟩])
            (.ret))
          (.skip)))
      (.seq (.seq (.region false [⟨(some 7), .move (.const (.int .i64 0)), none, false⟩])
          (.block 0 (.loop ac35_L1)))
        (.seq (.region false [⟨(some 6), .move (.const (.bool true)), none, false⟩])
          (.ret))))
theorem text35 : FnText Try.prog 35 [8] 57 3 ac35 [(6, none)] :=
  ⟨Try.call35, follows, Try.f35, _, Try.func35, rfl, rfl, by decide, by kernel_rfl, by kernel_rfl⟩

def ac82_L1 : AC :=
  .seq (.region false [⟨(some 9), .bin .lss 3 (.tmp 8) (.tmp 7), none, false⟩])
    (.seq (.cond (.tmp 9)
        (.skip)
        (.exit 0))
      (.seq (.block 1 (.seq (.region false [⟨(some 10), .move (.tmp 8), none, false⟩,
                ⟨(some 5), .move (.tmp 10), none, false⟩])
            (.seq (.region true [⟨(some 11), .load 2 true (.tmp 3), none, false⟩,
                  ⟨(some 12), .move (.tmp 0), none, false⟩,
                  ⟨(some 13), .move (.tmp 5), none, false⟩,
                  ⟨(some 14), .iaddr 2 (.tmp 12) (.tmp 13), none, false⟩,
                  ⟨(some 15), .load 2 true (.tmp 14), none, false⟩,
                  ⟨(some 16), .bin .eql 60 (.tmp 11) (.tmp 15), none, false⟩])
              (.cond (.tmp 16)
                (.seq (.region false [⟨(some 17), .move (.tmp 5), none, false⟩,
                      ⟨(some 4), .move (.tmp 17), none, false⟩])
                  (.ret))
                (.skip)))))
        (.region false [⟨(some 18), .bin .add 3 (.tmp 8) (.const (.int .i64 1)), none, false⟩,
            ⟨(some 8), .move (.tmp 18), none, false⟩])))
/-- slices.Index[[]patchbay/api.Guard,patchbay/api.Guard] -/
def ac82 : AC :=
  .seq (.region false [⟨(some 3), .box false 60 (.tmp 1), none, false⟩,
        ⟨(some 4), .move (.const (.int .i64 0)), none, false⟩])
    (.seq (.seq (.region false [⟨(some 6), .move (.tmp 0), none, false⟩,
            ⟨(some 7), .bi .len [56].toArray 3 [(.tmp 6)], none, false⟩,
            ⟨(some 8), .move (.const (.int .i64 0)), none, false⟩])
        (.block 0 (.loop ac82_L1)))
      (.seq (.region false [⟨(some 4), .move (.const (.int .i64 (-1))), none, false⟩])
        (.ret)))
theorem text82 : FnText Try.prog 82 [] 19 2 ac82 [(4, none)] :=
  ⟨Try.call82, follows, Try.f82, _, Try.func82, rfl, rfl, by decide, by kernel_rfl, by kernel_rfl⟩


/-- slices.Contains[[]patchbay/api.Guard,patchbay/api.Guard] -/
def ac70 : AC :=
  .seq (.region false [⟨(some 3), .box false 60 (.tmp 1), none, false⟩,
        ⟨(some 4), .move (.const (.bool false)), none, false⟩])
    (.seq (.region false [⟨(some 5), .move (.tmp 0), none, false⟩,
          ⟨(some 6), .load 2 true (.tmp 3), none, false⟩,
          ⟨(some 7), .call (.func 82) [(.tmp 5), (.tmp 6)], none, false⟩,
          ⟨(some 8), .bin .geq 3 (.tmp 7) (.const (.int .i64 0)), none, false⟩,
          ⟨(some 4), .move (.tmp 8), none, false⟩])
      (.ret))
theorem text70 : FnText Try.prog 70 [] 9 2 ac70 [(4, none)] :=
  ⟨Try.call70, follows, Try.f70, _, Try.func70, rfl, rfl, by decide, by kernel_rfl, by kernel_rfl⟩


/-- patchbay/units.Exclusive$1 -/
def ac69 : AC :=
  .seq (.region false [⟨(some 3), .box false 60 (.tmp 0), none, false⟩,
        ⟨(some 4), .move (.const (.bool false)), none, false⟩])
    (.seq (.region true [⟨(some 5), .load 1 false (.tmp 1), none, false⟩,
          ⟨(some 6), .load 1 false (.tmp 2), none, false⟩,
          ⟨(some 7), .iaddr 3 (.tmp 5) (.tmp 6), none, false⟩,
          ⟨(some 8), .faddr 2 1 false (.tmp 7), none, false⟩,
          ⟨(some 9), .load 1 false (.tmp 8), none, false⟩,
          ⟨(some 10), .faddr 0 1 false (.tmp 3), none, false⟩,
          ⟨(some 11), .load 1 false (.tmp 10), none, false⟩,
          ⟨(some 12), .faddr 1 1 false (.tmp 3), none, false⟩,
          ⟨(some 13), .load 1 false (.tmp 12), none, false⟩,
          ⟨(some 14), .un .not (.tmp 13), none, false⟩,
          ⟨(some 15), .build [(.int .i64 0), (.bool false)] [(0, 1, (.tmp 11)), (1, 1, (.tmp 14))], none, false⟩,
          ⟨(some 16), .call (.func 70) [(.tmp 9), (.tmp 15)], none, false⟩,
          ⟨(some 4), .move (.tmp 16), none, false⟩])
      (.ret))
theorem text69 : FnText Try.prog 69 [] 17 3 ac69 [(4, none)] :=
  ⟨Try.call69, follows, Try.f69, _, Try.func69, rfl, rfl, by decide, by kernel_rfl, by kernel_rfl⟩

def ac81_L1 : AC :=
  .seq (.region false [⟨(some 9), .bin .lss 3 (.tmp 8) (.tmp 7), none, false⟩])
    (.seq (.cond (.tmp 9)
        (.skip)
        (.exit 0))
      (.seq (.block 1 (.seq (.region false [⟨(some 10), .move (.tmp 8), none, false⟩,
                ⟨(some 5), .move (.tmp 10), none, false⟩])
            (.seq (.region false [⟨(some 11), .move (.tmp 1), none, false⟩,
                  ⟨(some 12), .move (.tmp 0), none, false⟩,
                  ⟨(some 13), .move (.tmp 5), none, false⟩,
                  ⟨(some 14), .iaddr 2 (.tmp 12) (.tmp 13), none, false⟩,
                  ⟨(some 15), .load 2 true (.tmp 14), none, false⟩,
                  ⟨(some 16), .call (.tmp 11) [(.tmp 15)], none, false⟩])
              (.cond (.tmp 16)
                (.seq (.region false [⟨(some 17), .move (.tmp 5), none, false⟩,
                      ⟨(some 4), .move (.tmp 17), none, false⟩])
                  (.ret))
                (.skip)))))
        (.region false [⟨(some 18), .bin .add 3 (.tmp 8) (.const (.int .i64 1)), none, false⟩,
            ⟨(some 8), .move (.tmp 18), none, false⟩])))
/-- slices.IndexFunc[[]patchbay/api.Guard,patchbay/api.Guard] -/
def ac81 : AC :=
  .seq (.region false [⟨(some 4), .move (.const (.int .i64 0)), none, false⟩])
    (.seq (.seq (.region false [⟨(some 6), .move (.tmp 0), none, false⟩,
            ⟨(some 7), .bi .len [56].toArray 3 [(.tmp 6)], none, false⟩,
            ⟨(some 8), .move (.const (.int .i64 0)), none, false⟩])
        (.block 0 (.loop ac81_L1)))
      (.seq (.region false [⟨(some 4), .move (.const (.int .i64 (-1))), none, false⟩])
        (.ret)))
theorem text81 : FnText Try.prog 81 [] 19 2 ac81 [(4, none)] :=
  ⟨Try.call81, follows, Try.f81, _, Try.func81, rfl, rfl, by decide, by kernel_rfl, by kernel_rfl⟩


/-- slices.ContainsFunc[[]patchbay/api.Guard,patchbay/api.Guard] -/
def ac68 : AC :=
  .seq (.region false [⟨(some 4), .move (.const (.bool false)), none, false⟩])
    (.seq (.region false [⟨(some 5), .move (.tmp 0), none, false⟩,
          ⟨(some 6), .move (.tmp 1), none, false⟩,
          ⟨(some 7), .call (.func 81) [(.tmp 5), (.tmp 6)], none, false⟩,
          ⟨(some 8), .bin .geq 3 (.tmp 7) (.const (.int .i64 0)), none, false⟩,
          ⟨(some 4), .move (.tmp 8), none, false⟩])
      (.ret))
theorem text68 : FnText Try.prog 68 [] 9 2 ac68 [(4, none)] :=
  ⟨Try.call68, follows, Try.f68, _, Try.func68, rfl, rfl, by decide, by kernel_rfl, by kernel_rfl⟩

def ac36_G1 : List AOper :=
  [⟨(some 10), .move (.tmp 1), (some (9, false)), false⟩,
    ⟨(some 11), .load 1 false (.tmp 3), (some (9, false)), false⟩,
    ⟨(some 12), .bi .len [48].toArray 3 [(.tmp 11)], (some (9, false)), false⟩,
    ⟨(some 13), .bin .geq 3 (.tmp 10) (.tmp 12), (some (9, false)), false⟩,
    ⟨(some 14), .pick (.tmp 9) (.const (.bool true)) (.tmp 13), none, false⟩]
def ac36_G2 : List AOper :=
  [⟨(some 16), .load 1 false (.tmp 5), (some (15, false)), false⟩,
    ⟨(some 17), .bin .lss 3 (.tmp 16) (.const (.int .i64 0)), (some (15, false)), false⟩,
    ⟨(some 18), .pick (.tmp 15) (.const (.bool true)) (.tmp 17), none, false⟩]
def ac36_G3 : List AOper :=
  [⟨(some 20), .load 1 false (.tmp 5), (some (19, false)), false⟩,
    ⟨(some 21), .load 1 false (.tmp 3), (some (19, false)), false⟩,
    ⟨(some 22), .bi .len [48].toArray 3 [(.tmp 21)], (some (19, false)), false⟩,
    ⟨(some 23), .bin .geq 3 (.tmp 20) (.tmp 22), (some (19, false)), false⟩,
    ⟨(some 24), .pick (.tmp 19) (.const (.bool true)) (.tmp 23), none, false⟩]
/-- patchbay/units.Exclusive -/
def ac36 : AC :=
  .seq (.region false [⟨(some 3), .box false 48 (.tmp 0), none, false⟩,
        ⟨(some 5), .box false 3 (.tmp 2), none, false⟩,
        ⟨(some 6), .move (.const (.bool false)), none, false⟩])
    (.seq (.seq (.region false (⟨(some 7), .move (.tmp 1), none, false⟩ :: ⟨(some 8), .bin .lss 3 (.tmp 7) (.const (.int .i64 0)), none, false⟩ :: ⟨(some 9), .move (.tmp 8), none, false⟩ :: (ac36_G1 ++ (⟨(some 15), .move (.tmp 14), none, false⟩ :: (ac36_G2 ++ (⟨(some 19), .move (.tmp 18), none, false⟩ :: (ac36_G3 ++ [])))))))
        (.cond (.tmp 24)
          (.seq (.region false [⟨(some 6), .move (.const (.bool false)), none, false⟩])
            (.ret))
          (.skip)))
      (.seq (.region false [⟨(some 25), .load 1 false (.tmp 3), none, false⟩,
            ⟨(some 26), .move (.tmp 1), none, false⟩,
            ⟨(some 27), .iaddr 3 (.tmp 25) (.tmp 26), none, false⟩,
            ⟨(some 28), .faddr 2 1 false (.tmp 27), none, false⟩,
            ⟨(some 29), .load 1 false (.tmp 28), none, false⟩,
            ⟨(some 30), .mkFunc (.func 69) [] [(.tmp 3), (.tmp 5)], none, false⟩,
            ⟨(some 31), .call (.func 68) [(.tmp 29), (.tmp 30)], none, false⟩,
            ⟨(some 6), .move (.tmp 31), none, false⟩])
        (.ret)))
theorem text36 : FnText Try.prog 36 [] 32 3 ac36 [(6, none)] :=
  ⟨Try.call36, follows, Try.f36, _, Try.func36, rfl, rfl, by decide, by kernel_rfl, by kernel_rfl⟩

def ac37_G1 : List AOper :=
  [⟨(some 12), .move (.tmp 2), (some (11, false)), false⟩,
    ⟨(some 13), .bin .lss 3 (.tmp 12) (.const (.int .i64 0)), (some (11, false)), false⟩,
    ⟨(some 14), .pick (.tmp 11) (.const (.bool true)) (.tmp 13), none, false⟩]
def ac37_G2 : List AOper :=
  [⟨(some 16), .move (.tmp 1), (some (15, false)), false⟩,
    ⟨(some 17), .move (.tmp 0), (some (15, false)), false⟩,
    ⟨(some 18), .bi .len [48].toArray 3 [(.tmp 17)], (some (15, false)), false⟩,
    ⟨(some 19), .bin .geq 3 (.tmp 16) (.tmp 18), (some (15, false)), false⟩,
    ⟨(some 20), .pick (.tmp 15) (.const (.bool true)) (.tmp 19), none, false⟩]
def ac37_G3 : List AOper :=
  [⟨(some 22), .move (.tmp 2), (some (21, false)), false⟩,
    ⟨(some 23), .move (.tmp 0), (some (21, false)), false⟩,
    ⟨(some 24), .bi .len [48].toArray 3 [(.tmp 23)], (some (21, false)), false⟩,
    ⟨(some 25), .bin .geq 3 (.tmp 22) (.tmp 24), (some (21, false)), false⟩,
    ⟨(some 26), .pick (.tmp 21) (.const (.bool true)) (.tmp 25), none, false⟩]
def ac37_G4 : List AOper :=
  [⟨(some 67), .move (.tmp 0), (some (66, true)), false⟩,
    ⟨(some 68), .move (.tmp 1), (some (66, true)), false⟩,
    ⟨(some 69), .iaddr 3 (.tmp 67) (.tmp 68), (some (66, true)), false⟩,
    ⟨(some 70), .faddr 2 1 false (.tmp 69), (some (66, true)), false⟩,
    ⟨(some 71), .load 1 false (.tmp 70), (some (66, true)), false⟩,
    ⟨(some 72), .move (.tmp 7), (some (66, true)), false⟩,
    ⟨(some 73), .iaddr 2 (.tmp 71) (.tmp 72), (some (66, true)), false⟩,
    ⟨(some 74), .faddr 1 1 false (.tmp 73), (some (66, true)), false⟩,
    ⟨(some 75), .load 1 false (.tmp 74), (some (66, true)), false⟩,
    ⟨(some 76), .move (.tmp 0), (some (66, true)), false⟩,
    ⟨(some 77), .move (.tmp 2), (some (66, true)), false⟩,
    ⟨(some 78), .iaddr 3 (.tmp 76) (.tmp 77), (some (66, true)), false⟩,
    ⟨(some 79), .faddr 2 1 false (.tmp 78), (some (66, true)), false⟩,
    ⟨(some 80), .load 1 false (.tmp 79), (some (66, true)), false⟩,
    ⟨(some 81), .move (.tmp 8), (some (66, true)), false⟩,
    ⟨(some 82), .iaddr 2 (.tmp 80) (.tmp 81), (some (66, true)), false⟩,
    ⟨(some 83), .faddr 1 1 false (.tmp 82), (some (66, true)), false⟩,
    ⟨(some 84), .load 1 false (.tmp 83), (some (66, true)), false⟩,
    ⟨(some 85), .bin .neq 4 (.tmp 75) (.tmp 84), (some (66, true)), false⟩,
    ⟨(some 86), .pick (.tmp 66) (.tmp 85) (.const (.bool false)), none, false⟩]
def ac37_L2 : AC :=
  .seq (.seq (.region false [⟨(some 37), .move (.tmp 8), none, false⟩,
          ⟨(some 38), .move (.tmp 0), none, false⟩,
          ⟨(some 39), .move (.tmp 2), none, false⟩,
          ⟨(some 40), .iaddr 3 (.tmp 38) (.tmp 39), none, false⟩,
          ⟨(some 41), .faddr 2 1 false (.tmp 40), none, false⟩,
          ⟨(some 42), .load 1 false (.tmp 41), none, false⟩,
          ⟨(some 43), .bi .len [56].toArray 3 [(.tmp 42)], none, false⟩,
          ⟨(some 44), .bin .lss 3 (.tmp 37) (.tmp 43), none, false⟩])
      (.cond (.tmp 44)
        (.skip)
        (.exit 2)))
    (.seq (.block 3 (.seq (.region true (⟨(some 47), .move (.tmp 0), none, false⟩ :: ⟨(some 48), .move (.tmp 1), none, false⟩ :: ⟨(some 49), .iaddr 3 (.tmp 47) (.tmp 48), none, false⟩ :: ⟨(some 50), .faddr 2 1 false (.tmp 49), none, false⟩ :: ⟨(some 51), .load 1 false (.tmp 50), none, false⟩ :: ⟨(some 52), .move (.tmp 7), none, false⟩ :: ⟨(some 53), .iaddr 2 (.tmp 51) (.tmp 52), none, false⟩ :: ⟨(some 54), .faddr 0 1 false (.tmp 53), none, false⟩ :: ⟨(some 55), .load 1 false (.tmp 54), none, false⟩ :: ⟨(some 56), .move (.tmp 0), none, false⟩ :: ⟨(some 57), .move (.tmp 2), none, false⟩ :: ⟨(some 58), .iaddr 3 (.tmp 56) (.tmp 57), none, false⟩ :: ⟨(some 59), .faddr 2 1 false (.tmp 58), none, false⟩ :: ⟨(some 60), .load 1 false (.tmp 59), none, false⟩ :: ⟨(some 61), .move (.tmp 8), none, false⟩ :: ⟨(some 62), .iaddr 2 (.tmp 60) (.tmp 61), none, false⟩ :: ⟨(some 63), .faddr 0 1 false (.tmp 62), none, false⟩ :: ⟨(some 64), .load 1 false (.tmp 63), none, false⟩ :: ⟨(some 65), .bin .eql 3 (.tmp 55) (.tmp 64), none, false⟩ :: ⟨(some 66), .move (.tmp 65), none, false⟩ :: (ac37_G4 ++ [])))
          (.cond (.tmp 86)
            (.seq (.region false [⟨(some 6), .move (.const (.bool true)), none, false⟩])
              (.ret))
            (.skip))))
      (.region false [⟨(some 45), .move (.tmp 8), none, false⟩,
          ⟨(some 46), .bin .add 3 (.tmp 45) (.const (.int .i64 1)), none, false⟩,
          ⟨(some 8), .move (.tmp 46), none, false⟩]))
def ac37_L1 : AC :=
  .seq (.seq (.region false [⟨(some 27), .move (.tmp 7), none, false⟩,
          ⟨(some 28), .move (.tmp 0), none, false⟩,
          ⟨(some 29), .move (.tmp 1), none, false⟩,
          ⟨(some 30), .iaddr 3 (.tmp 28) (.tmp 29), none, false⟩,
          ⟨(some 31), .faddr 2 1 false (.tmp 30), none, false⟩,
          ⟨(some 32), .load 1 false (.tmp 31), none, false⟩,
          ⟨(some 33), .bi .len [56].toArray 3 [(.tmp 32)], none, false⟩,
          ⟨(some 34), .bin .lss 3 (.tmp 27) (.tmp 33), none, false⟩])
      (.cond (.tmp 34)
        (.skip)
        (.exit 0)))
    (.seq (.block 1 (.seq (.region false [⟨(some 8), .move (.const (.int .i64 0)), none, false⟩])
          (.block 2 (.loop ac37_L2))))
      (.region false [⟨(some 35), .move (.tmp 7), none, false⟩,
          ⟨(some 36), .bin .add 3 (.tmp 35) (.const (.int .i64 1)), none, false⟩,
          ⟨(some 7), .move (.tmp 36), none, false⟩]))
/-- patchbay/patchbayref32.Exclusive -/
def ac37 : AC :=
  .seq (.region false [⟨(some 6), .move (.const (.bool false)), none, false⟩])
    (.seq (.seq (.region false (⟨(some 9), .move (.tmp 1), none, false⟩ :: ⟨(some 10), .bin .lss 3 (.tmp 9) (.const (.int .i64 0)), none, false⟩ :: ⟨(some 11), .move (.tmp 10), none, false⟩ :: (ac37_G1 ++ (⟨(some 15), .move (.tmp 14), none, false⟩ :: (ac37_G2 ++ (⟨(some 21), .move (.tmp 20), none, false⟩ :: (ac37_G3 ++ [])))))))
        (.cond (.tmp 26)
          (.seq (.region false [⟨(some 6), .move (.const (.bool false)), none, false⟩])
            (.ret))
          (.skip)))
      (.seq (.seq (.region false [⟨(some 7), .move (.const (.int .i64 0)), none, false⟩])
          (.block 0 (.loop ac37_L1)))
        (.seq (.region false [⟨(some 6), .move (.const (.bool false)), none, false⟩])
          (.ret))))
theorem text37 : FnText Try.prog 37 [] 87 3 ac37 [(6, none)] :=
  ⟨Try.call37, follows, Try.f37, _, Try.func37, rfl, rfl, by decide, by kernel_rfl, by kernel_rfl⟩

def ac6_G1 : List AOper :=
  [⟨(some 23), .move (.tmp 0), (some (22, true)), false⟩,
    ⟨(some 24), .iaddrA 2 1 false (.tmp 5) (.const (.int .i64 0)), (some (22, true)), false⟩,
    ⟨(some 25), .load 1 false (.tmp 24), (some (22, true)), false⟩,
    ⟨(some 26), .iaddrA 2 1 false (.tmp 5) (.const (.int .i64 1)), (some (22, true)), false⟩,
    ⟨(some 27), .load 1 false (.tmp 26), (some (22, true)), false⟩,
    ⟨(some 28), .call (.func 36) [(.tmp 23), (.tmp 25), (.tmp 27)], (some (22, true)), false⟩,
    ⟨(some 29), .move (.tmp 0), (some (22, true)), false⟩,
    ⟨(some 30), .iaddrA 2 1 false (.tmp 5) (.const (.int .i64 0)), (some (22, true)), false⟩,
    ⟨(some 31), .load 1 false (.tmp 30), (some (22, true)), false⟩,
    ⟨(some 32), .iaddrA 2 1 false (.tmp 5) (.const (.int .i64 1)), (some (22, true)), false⟩,
    ⟨(some 33), .load 1 false (.tmp 32), (some (22, true)), false⟩,
    ⟨(some 34), .call (.func 37) [(.tmp 29), (.tmp 31), (.tmp 33)], (some (22, true)), false⟩,
    ⟨(some 35), .bin .eql 4 (.tmp 28) (.tmp 34), (some (22, true)), false⟩,
    ⟨(some 36), .pick (.tmp 22) (.tmp 35) (.const (.bool false)), none, false⟩]
def ac6_G2 : List AOper :=
  [⟨(some 38), .move (.tmp 0), (some (37, true)), false⟩,
    ⟨(some 39), .iaddrA 2 1 false (.tmp 5) (.const (.int .i64 0)), (some (37, true)), false⟩,
    ⟨(some 40), .load 1 false (.tmp 39), (some (37, true)), false⟩,
    ⟨(some 41), .iaddrA 2 1 false (.tmp 5) (.const (.int .i64 1)), (some (37, true)), false⟩,
    ⟨(some 42), .load 1 false (.tmp 41), (some (37, true)), false⟩,
    ⟨(some 43), .call (.func 36) [(.tmp 38), (.tmp 40), (.tmp 42)], (some (37, true)), false⟩,
    ⟨(some 44), .move (.tmp 0), (some (37, true)), false⟩,
    ⟨(some 45), .iaddrA 2 1 false (.tmp 5) (.const (.int .i64 1)), (some (37, true)), false⟩,
    ⟨(some 46), .load 1 false (.tmp 45), (some (37, true)), false⟩,
    ⟨(some 47), .iaddrA 2 1 false (.tmp 5) (.const (.int .i64 0)), (some (37, true)), false⟩,
    ⟨(some 48), .load 1 false (.tmp 47), (some (37, true)), false⟩,
    ⟨(some 49), .call (.func 36) [(.tmp 44), (.tmp 46), (.tmp 48)], (some (37, true)), false⟩,
    ⟨(some 50), .bin .eql 4 (.tmp 43) (.tmp 49), (some (37, true)), false⟩,
    ⟨(some 51), .pick (.tmp 37) (.tmp 50) (.const (.bool false)), none, false⟩]
def ac6_G3 : List AOper :=
  [⟨(some 53), .call (.func 29) [], (some (52, true)), false⟩,
    ⟨(some 54), .pick (.tmp 52) (.tmp 53) (.const (.bool false)), none, false⟩]
/-- patchbay/patchbaylaw32.UnitsGuard -/
def ac6 : AC :=
  .seq (.region false [⟨(some 5), .box false 51 (.tmp 2), none, false⟩,
        ⟨(some 6), .move (.const (.bool false)), none, false⟩])
    (.seq (.seq (.region false [⟨(some 7), .move (.tmp 0), none, false⟩,
            ⟨(some 8), .call (.func 33) [(.tmp 7)], none, false⟩,
            ⟨(some 9), .un .not (.tmp 8), none, false⟩])
        (.cond (.tmp 9)
          (.seq (.region false [⟨(some 10), .call (.func 29) [], none, false⟩,
                ⟨(some 6), .move (.tmp 10), none, false⟩])
            (.ret))
          (.skip)))
      (.seq (.region true (⟨(some 11), .move (.tmp 0), none, false⟩ :: ⟨(some 12), .move (.tmp 1), none, false⟩ :: ⟨(some 13), .iaddrA 2 1 false (.tmp 5) (.const (.int .i64 0)), none, false⟩ :: ⟨(some 14), .load 1 false (.tmp 13), none, false⟩ :: ⟨(some 15), .call (.func 34) [(.tmp 11), (.tmp 12), (.tmp 14)], none, false⟩ :: ⟨(some 16), .move (.tmp 0), none, false⟩ :: ⟨(some 17), .move (.tmp 1), none, false⟩ :: ⟨(some 18), .iaddrA 2 1 false (.tmp 5) (.const (.int .i64 0)), none, false⟩ :: ⟨(some 19), .load 1 false (.tmp 18), none, false⟩ :: ⟨(some 20), .call (.func 35) [(.tmp 16), (.tmp 17), (.tmp 19)], none, false⟩ :: ⟨(some 21), .bin .eql 4 (.tmp 15) (.tmp 20), none, false⟩ :: ⟨(some 22), .move (.tmp 21), none, false⟩ :: (ac6_G1 ++ (⟨(some 37), .move (.tmp 36), none, false⟩ :: (ac6_G2 ++ (⟨(some 52), .move (.tmp 51), none, false⟩ :: (ac6_G3 ++ [⟨(some 6), .move (.tmp 54), none, false⟩])))))))
        (.ret)))
theorem text6 : FnText Try.prog 6 [] 55 3 ac6 [(6, none)] :=
  ⟨Try.call6, follows, Try.f6, _, Try.func6, rfl, rfl, by decide, by kernel_rfl, by kernel_rfl⟩


/-- patchbay/patchbaylaw32.sample -/
def ac62 : AC :=
  .seq (.region false [⟨(some 0), .alloc true 31 (.agg [(.string ⟨[].toArray⟩), (.slice none 0 0), (.slice none 0 0), (.slice none 0 0), (.slice none 0 0), (.slice none 0 0), (.slice none 0 0), (.slice none 0 0), (.slice none 0 0)].toArray), none, false⟩])
    (.seq (.region false [⟨(some 2), .build [(.int .i64 0), (.int .i64 0), (.int .i64 0)] [(0, 1, (.const (.int .i64 1))), (1, 1, (.const (.int .i64 1))), (2, 1, (.const (.int .i64 1)))], none, false⟩,
          ⟨(some 3), .bslice false 106 3 false [(.tmp 2)], none, false⟩,
          ⟨(some 1), .move (.tmp 3), none, false⟩])
      (.seq (.region false [⟨(some 4), .build [(.string ⟨[].toArray⟩), (.slice none 0 0), (.slice none 0 0), (.int .i64 0), (.slice none 0 0), (.int .i64 0)] [(0, 1, (.const (.string ⟨[116].toArray⟩)))], none, false⟩,
            ⟨(some 5), .build [(.string ⟨[].toArray⟩), (.slice none 0 0), (.slice none 0 0), (.int .i64 0), (.slice none 0 0), (.int .i64 0)] [(0, 1, (.const (.string ⟨[117].toArray⟩)))], none, false⟩,
            ⟨(some 6), .build [(.string ⟨[].toArray⟩), (.slice none 0 0), (.slice none 0 0), (.int .i64 0), (.slice none 0 0), (.int .i64 0)] [(0, 1, (.const (.string ⟨[118].toArray⟩)))], none, false⟩,
            ⟨(some 7), .bslice false 87 6 false [(.tmp 4), (.tmp 5), (.tmp 6)], none, false⟩,
            ⟨(some 8), .build [(.int .i64 0), (.int .i64 0), (.slice none 0 0), (.slice none 0 0), (.slice none 0 0)] [(0, 1, (.const (.int .i64 1)))], none, false⟩,
            ⟨(some 9), .move (.tmp 1), none, false⟩,
            ⟨(some 10), .build [(.int .i64 0), (.int .i64 0), (.slice none 0 0), (.slice none 0 0), (.slice none 0 0)] [(0, 1, (.const (.int .i64 1))), (1, 1, (.const (.int .i64 1)))], none, false⟩,
            ⟨(some 11), .bslice false 40 5 false [(.tmp 10)], none, false⟩,
            ⟨(some 12), .build [(.int .i64 0), (.int .i64 0), (.slice none 0 0), (.slice none 0 0), (.slice none 0 0)] [(0, 1, (.const (.int .i64 1))), (1, 1, (.const (.int .i64 2)))], none, false⟩,
            ⟨(some 13), .bslice false 40 5 false [(.tmp 12)], none, false⟩,
            ⟨(some 14), .build [(.int .i64 0), (.int .i64 0), (.slice none 0 0), (.slice none 0 0), (.slice none 0 0)] [(0, 1, (.const (.int .i64 2))), (2, 1, (.tmp 9)), (3, 1, (.tmp 11)), (4, 1, (.tmp 13))], none, false⟩,
            ⟨(some 15), .bslice false 40 5 false [(.tmp 8), (.tmp 14)], none, false⟩,
            ⟨(some 16), .build [(.string ⟨[].toArray⟩), (.slice none 0 0), (.slice none 0 0), (.slice none 0 0), (.slice none 0 0), (.slice none 0 0), (.slice none 0 0), (.slice none 0 0), (.slice none 0 0)] [(5, 1, (.tmp 7)), (7, 1, (.tmp 15))], none, false⟩,
            ⟨none, .store 9 (.tmp 0) (.tmp 16), none, false⟩])
        (.ret)))
theorem text62 : FnText Try.prog 62 [0] 17 0 ac62 [(0, some (9, true))] :=
  ⟨Try.call62, follows, Try.f62, _, Try.func62, rfl, rfl, by decide, by kernel_rfl, by kernel_rfl⟩


/-- patchbay/units.Build -/
def ac31 : AC :=
  .seq (.region false [⟨(some 1), .box false 31 (.tmp 0), none, false⟩,
        ⟨(some 2), .move (.const (.slice none 0 0)), none, false⟩])
    (.seq (.seq (.region false [⟨(some 8), .load 9 true (.tmp 1), none, false⟩,
            ⟨(some 9), .call (.func 16) [(.tmp 8)], none, false⟩,
            ⟨(some 7), .move (.tmp 9), none, false⟩,
            ⟨(some 10), .extract (.tmp 7) 0, none, false⟩,
            ⟨(some 11), .extract (.tmp 7) 1, none, false⟩,
            ⟨(some 3), .move (.tmp 10), none, false⟩,
            ⟨(some 4), .move (.tmp 11), none, false⟩])
        (.seq (.region false [⟨(some 12), .move (.tmp 4), none, false⟩,
              ⟨(some 13), .bin .neq 35 (.tmp 12) (.const (.int .i64 0)), none, false⟩])
          (.cond (.tmp 13)
            (.seq (.region false [⟨(some 2), .move (.const (.slice none 0 0)), none, false⟩])
              (.ret))
            (.skip))))
      (.seq (.region false [⟨(some 5), .alloc true 48 (.slice none 0 0), none, false⟩])
        (.seq (.region false [⟨(some 6), .alloc true 102 .nilFunc, none, false⟩])
          (.seq (.region false [⟨(some 14), .mkFunc (.func 63) [] [(.tmp 5), (.tmp 6)], none, false⟩,
                ⟨none, .store 1 (.tmp 6) (.tmp 14), none, false⟩])
            (.seq (.region false [⟨(some 15), .load 1 false (.tmp 6), none, false⟩,
                  ⟨(some 16), .faddr 7 1 false (.tmp 1), none, false⟩,
                  ⟨(some 17), .load 1 false (.tmp 16), none, false⟩,
                  ⟨(some 18), .call (.tmp 15) [(.tmp 17), (.const (.slice none 0 0))], none, false⟩])
              (.seq (.region false [⟨(some 19), .load 1 false (.tmp 5), none, false⟩,
                    ⟨(some 2), .move (.tmp 19), none, false⟩])
                (.ret)))))))
theorem text31 : FnText Try.prog 31 [5, 6] 20 1 ac31 [(2, none)] :=
  ⟨Try.call31, follows, Try.f31, _, Try.func31, rfl, rfl, by decide, by kernel_rfl, by kernel_rfl⟩


/-- patchbay/control.Check -/
def ac16 : AC :=
  .seq (.region false [⟨(some 1), .box false 31 (.tmp 0), none, false⟩,
        ⟨(some 2), .move (.const (.int .i64 0)), none, false⟩,
        ⟨(some 3), .alloc true 35 (.int .i64 0), none, false⟩])
    (.seq (.seq (.region false [⟨(some 6), .faddr 7 1 false (.tmp 1), none, false⟩,
            ⟨(some 7), .load 1 false (.tmp 6), none, false⟩,
            ⟨(some 8), .call (.func 20) [(.tmp 7)], none, false⟩,
            ⟨(some 9), .bin .gtr 3 (.tmp 8) (.const (.int .i64 24)), none, false⟩])
        (.cond (.tmp 9)
          (.seq (.region false [⟨(some 2), .move (.const (.int .i64 (-1))), none, false⟩,
                ⟨none, .store 1 (.tmp 3) (.const (.int .i64 12)), none, false⟩])
            (.ret))
          (.skip)))
      (.seq (.seq (.region false [⟨(some 10), .faddr 7 1 false (.tmp 1), none, false⟩,
              ⟨(some 11), .load 1 false (.tmp 10), none, false⟩,
              ⟨(some 12), .call (.func 22) [(.tmp 11)], none, false⟩,
              ⟨(some 13), .bin .gtr 3 (.tmp 12) (.const (.int .i64 6)), none, false⟩])
          (.cond (.tmp 13)
            (.seq (.region false [⟨(some 2), .move (.const (.int .i64 (-1))), none, false⟩,
                  ⟨none, .store 1 (.tmp 3) (.const (.int .i64 14)), none, false⟩])
              (.ret))
            (.skip)))
        (.seq (.region false [⟨(some 4), .alloc true 3 (.int .i64 0), none, false⟩,
              ⟨none, .store 1 (.tmp 4) (.const (.int .i64 0)), none, false⟩])
          (.seq (.region false [⟨(some 5), .alloc true 29 (.slice none 0 0), none, false⟩])
            (.seq (.region false [⟨(some 14), .faddr 7 1 false (.tmp 1), none, false⟩,
                  ⟨(some 15), .load 1 false (.tmp 14), none, false⟩,
                  ⟨(some 16), .mkFunc (.func 49) [] [(.tmp 1), (.tmp 5), (.tmp 3), (.tmp 4)], none, false⟩,
                  ⟨(some 17), .call (.func 48) [(.tmp 15), (.tmp 16)], none, false⟩])
              (.seq (.seq (.region false [⟨(some 18), .load 1 false (.tmp 3), none, false⟩,
                      ⟨(some 19), .bin .neq 35 (.tmp 18) (.const (.int .i64 0)), none, false⟩])
                  (.cond (.tmp 19)
                    (.seq (.region true [⟨(some 20), .load 1 false (.tmp 4), none, false⟩,
                          ⟨(some 21), .load 1 false (.tmp 3), none, false⟩,
                          ⟨(some 2), .move (.tmp 20), none, false⟩,
                          ⟨none, .store 1 (.tmp 3) (.tmp 21), none, false⟩])
                      (.ret))
                    (.skip)))
                (.seq (.region false [⟨(some 2), .move (.const (.int .i64 0)), none, false⟩,
                      ⟨none, .store 1 (.tmp 3) (.const (.int .i64 0)), none, false⟩])
                  (.ret))))))))
theorem text16 : FnText Try.prog 16 [3, 4, 5] 22 1 ac16 [(2, none), (3, some (1, false))] :=
  ⟨Try.call16, follows, Try.f16, _, Try.func16, rfl, rfl, by decide, by kernel_rfl, by kernel_rfl⟩


/-- patchbay/control.Count -/
def ac20 : AC :=
  .seq (.region false [⟨(some 2), .move (.const (.int .i64 0)), none, false⟩])
    (.seq (.region false [⟨(some 3), .alloc true 3 (.int .i64 0), none, false⟩,
          ⟨none, .store 1 (.tmp 3) (.const (.int .i64 0)), none, false⟩])
      (.seq (.region false [⟨(some 4), .move (.tmp 0), none, false⟩,
            ⟨(some 5), .mkFunc (.func 56) [] [(.tmp 3)], none, false⟩,
            ⟨(some 6), .call (.func 48) [(.tmp 4), (.tmp 5)], none, false⟩])
        (.seq (.region false [⟨(some 7), .load 1 false (.tmp 3), none, false⟩,
              ⟨(some 2), .move (.tmp 7), none, false⟩])
          (.ret))))
theorem text20 : FnText Try.prog 20 [3] 8 1 ac20 [(2, none)] :=
  ⟨Try.call20, follows, Try.f20, _, Try.func20, rfl, rfl, by decide, by kernel_rfl, by kernel_rfl⟩


/-- patchbay/control.Count$1 -/
def ac56 : AC :=
  .seq (.region false [⟨(some 2), .box false 40 (.tmp 0), none, false⟩,
        ⟨(some 3), .move (.const (.bool false)), none, false⟩])
    (.seq (.region false [⟨(some 4), .load 1 false (.tmp 1), none, false⟩,
          ⟨(some 5), .bin .add 3 (.tmp 4) (.const (.int .i64 1)), none, false⟩,
          ⟨none, .store 1 (.tmp 1) (.tmp 5), none, false⟩])
      (.seq (.region false [⟨(some 3), .move (.const (.bool true)), none, false⟩])
        (.ret)))
theorem text56 : FnText Try.prog 56 [] 6 2 ac56 [(3, none)] :=
  ⟨Try.call56, follows, Try.f56, _, Try.func56, rfl, rfl, by decide, by kernel_rfl, by kernel_rfl⟩

def ac48_G1 : List AOper :=
  [⟨(some 18), .faddr 3 1 false (.tmp 6), (some (17, false)), false⟩,
    ⟨(some 19), .load 1 false (.tmp 18), (some (17, false)), false⟩,
    ⟨(some 20), .move (.tmp 1), (some (17, false)), false⟩,
    ⟨(some 21), .call (.func 48) [(.tmp 19), (.tmp 20)], (some (17, false)), false⟩,
    ⟨(some 22), .un .not (.tmp 21), (some (17, false)), false⟩,
    ⟨(some 23), .pick (.tmp 17) (.const (.bool true)) (.tmp 22), none, false⟩]
def ac48_G2 : List AOper :=
  [⟨(some 25), .faddr 4 1 false (.tmp 6), (some (24, false)), false⟩,
    ⟨(some 26), .load 1 false (.tmp 25), (some (24, false)), false⟩,
    ⟨(some 27), .move (.tmp 1), (some (24, false)), false⟩,
    ⟨(some 28), .call (.func 48) [(.tmp 26), (.tmp 27)], (some (24, false)), false⟩,
    ⟨(some 29), .un .not (.tmp 28), (some (24, false)), false⟩,
    ⟨(some 30), .pick (.tmp 24) (.const (.bool true)) (.tmp 29), none, false⟩]
def ac48_L1 : AC :=
  .seq (.region false [⟨(some 10), .bin .lss 3 (.tmp 9) (.tmp 8), none, false⟩])
    (.seq (.cond (.tmp 10)
        (.skip)
        (.exit 0))
      (.seq (.block 1 (.seq (.region false [⟨(some 11), .iaddr 5 (.tmp 7) (.tmp 9), none, false⟩,
                ⟨(some 12), .load 5 true (.tmp 11), none, false⟩,
                ⟨(some 6), .alloc true 40 (.agg [(.int .i64 0), (.int .i64 0), (.slice none 0 0), (.slice none 0 0), (.slice none 0 0)].toArray), none, false⟩,
                ⟨none, .store 5 (.tmp 6) (.tmp 12), none, false⟩])
            (.seq (.region false (⟨(some 13), .move (.tmp 1), none, false⟩ :: ⟨(some 14), .load 5 true (.tmp 6), none, false⟩ :: ⟨(some 15), .call (.tmp 13) [(.tmp 14)], none, false⟩ :: ⟨(some 16), .un .not (.tmp 15), none, false⟩ :: ⟨(some 17), .move (.tmp 16), none, false⟩ :: (ac48_G1 ++ (⟨(some 24), .move (.tmp 23), none, false⟩ :: (ac48_G2 ++ [])))))
              (.cond (.tmp 30)
                (.seq (.region false [⟨(some 4), .move (.const (.bool false)), none, false⟩])
                  (.ret))
                (.skip)))))
        (.region false [⟨(some 31), .bin .add 3 (.tmp 9) (.const (.int .i64 1)), none, false⟩,
            ⟨(some 9), .move (.tmp 31), none, false⟩])))
/-- patchbay/control.preorder -/
def ac48 : AC :=
  .seq (.region false [⟨(some 4), .move (.const (.bool false)), none, false⟩])
    (.seq (.seq (.region false [⟨(some 7), .move (.tmp 0), none, false⟩,
            ⟨(some 8), .bi .len [28].toArray 3 [(.tmp 7)], none, false⟩,
            ⟨(some 9), .move (.const (.int .i64 0)), none, false⟩])
        (.block 0 (.loop ac48_L1)))
      (.seq (.region false [⟨(some 4), .move (.const (.bool true)), none, false⟩])
        (.ret)))
theorem text48 : FnText Try.prog 48 [6] 32 2 ac48 [(4, none)] :=
  ⟨Try.call48, follows, Try.f48, _, Try.func48, rfl, rfl, by decide, by kernel_rfl, by kernel_rfl⟩

def ac22_L1 : AC :=
  .seq (.region false [⟨(some 12), .bin .lss 3 (.tmp 11) (.tmp 10), none, false⟩])
    (.seq (.cond (.tmp 12)
        (.skip)
        (.exit 0))
      (.seq (.block 1 (.seq (.region false [⟨(some 13), .iaddr 5 (.tmp 9) (.tmp 11), none, false⟩,
                ⟨(some 14), .load 5 true (.tmp 13), none, false⟩,
                ⟨(some 5), .alloc true 40 (.agg [(.int .i64 0), (.int .i64 0), (.slice none 0 0), (.slice none 0 0), (.slice none 0 0)].toArray), none, false⟩,
                ⟨none, .store 5 (.tmp 5) (.tmp 14), none, false⟩])
            (.region true [⟨(some 15), .move (.tmp 3), none, false⟩,
                ⟨(some 16), .faddr 3 1 false (.tmp 5), none, false⟩,
                ⟨(some 17), .load 1 false (.tmp 16), none, false⟩,
                ⟨(some 18), .call (.func 22) [(.tmp 17)], none, false⟩,
                ⟨(some 19), .faddr 4 1 false (.tmp 5), none, false⟩,
                ⟨(some 20), .load 1 false (.tmp 19), none, false⟩,
                ⟨(some 21), .call (.func 22) [(.tmp 20)], none, false⟩,
                ⟨(some 22), .bi .max [3, 3, 3].toArray 3 [(.tmp 15), (.tmp 18), (.tmp 21)], none, false⟩,
                ⟨(some 3), .move (.tmp 22), none, false⟩])))
        (.region false [⟨(some 23), .bin .add 3 (.tmp 11) (.const (.int .i64 1)), none, false⟩,
            ⟨(some 11), .move (.tmp 23), none, false⟩])))
/-- patchbay/control.Nesting -/
def ac22 : AC :=
  .seq (.region false [⟨(some 2), .move (.const (.int .i64 0)), none, false⟩])
    (.seq (.seq (.region false [⟨(some 6), .move (.tmp 0), none, false⟩,
            ⟨(some 7), .bi .len [28].toArray 3 [(.tmp 6)], none, false⟩,
            ⟨(some 8), .bin .eql 3 (.tmp 7) (.const (.int .i64 0)), none, false⟩])
        (.cond (.tmp 8)
          (.seq (.region false [⟨(some 2), .move (.const (.int .i64 0)), none, false⟩])
            (.ret))
          (.skip)))
      (.seq (.region false [⟨(some 3), .move (.const (.int .i64 0)), none, false⟩])
        (.seq (.seq (.region false [⟨(some 9), .move (.tmp 0), none, false⟩,
                ⟨(some 10), .bi .len [28].toArray 3 [(.tmp 9)], none, false⟩,
                ⟨(some 11), .move (.const (.int .i64 0)), none, false⟩])
            (.block 0 (.loop ac22_L1)))
          (.seq (.region false [⟨(some 24), .move (.tmp 3), none, false⟩,
                ⟨(some 25), .bin .add 3 (.tmp 24) (.const (.int .i64 1)), none, false⟩,
                ⟨(some 2), .move (.tmp 25), none, false⟩])
            (.ret)))))
theorem text22 : FnText Try.prog 22 [5] 26 1 ac22 [(2, none)] :=
  ⟨Try.call22, follows, Try.f22, _, Try.func22, rfl, rfl, by decide, by kernel_rfl, by kernel_rfl⟩


/-- patchbay/control.Check$1 -/
def ac49 : AC :=
  .seq (.region false [⟨(some 5), .box false 40 (.tmp 0), none, false⟩,
        ⟨(some 6), .move (.const (.bool false)), none, false⟩])
    (.seq (.seq (.region false [⟨(some 7), .load 9 true (.tmp 1), none, false⟩,
            ⟨(some 8), .load 5 true (.tmp 5), none, false⟩,
            ⟨(some 9), .load 1 false (.tmp 2), none, false⟩,
            ⟨(some 10), .call (.func 50) [(.tmp 7), (.tmp 8), (.tmp 9)], none, false⟩,
            ⟨none, .store 1 (.tmp 3) (.tmp 10), none, false⟩])
        (.seq (.region false [⟨(some 11), .load 1 false (.tmp 3), none, false⟩,
              ⟨(some 12), .bin .neq 35 (.tmp 11) (.const (.int .i64 0)), none, false⟩])
          (.cond (.tmp 12)
            (.seq (.region false [⟨(some 6), .move (.const (.bool false)), none, false⟩])
              (.ret))
            (.skip))))
      (.seq (.seq (.region false [⟨(some 13), .load 5 true (.tmp 5), none, false⟩,
              ⟨(some 14), .call (.func 51) [(.tmp 13)], none, false⟩])
          (.cond (.tmp 14)
            (.region false [⟨(some 15), .load 1 false (.tmp 2), none, false⟩,
                ⟨(some 16), .faddr 1 1 false (.tmp 5), none, false⟩,
                ⟨(some 17), .load 1 false (.tmp 16), none, false⟩,
                ⟨(some 18), .bslice false 3 1 false [(.tmp 17)], none, false⟩,
                ⟨(some 19), .append 29 3 1 8 (.tmp 15) (.tmp 18), none, false⟩,
                ⟨none, .store 1 (.tmp 2) (.tmp 19), none, false⟩])
            (.skip)))
        (.seq (.region false [⟨(some 20), .load 1 false (.tmp 4), none, false⟩,
              ⟨(some 21), .bin .add 3 (.tmp 20) (.const (.int .i64 1)), none, false⟩,
              ⟨none, .store 1 (.tmp 4) (.tmp 21), none, false⟩])
          (.seq (.region false [⟨(some 6), .move (.const (.bool true)), none, false⟩])
            (.ret)))))
theorem text49 : FnText Try.prog 49 [] 22 5 ac49 [(6, none)] :=
  ⟨Try.call49, follows, Try.f49, _, Try.func49, rfl, rfl, by decide, by kernel_rfl, by kernel_rfl⟩

def ac50_G1 : List AOper :=
  [⟨(some 20), .faddr 1 1 false (.tmp 4), (some (19, false)), false⟩,
    ⟨(some 21), .load 1 false (.tmp 20), (some (19, false)), false⟩,
    ⟨(some 22), .faddr 5 1 false (.tmp 3), (some (19, false)), false⟩,
    ⟨(some 23), .load 1 false (.tmp 22), (some (19, false)), false⟩,
    ⟨(some 24), .bi .len [26].toArray 3 [(.tmp 23)], (some (19, false)), false⟩,
    ⟨(some 25), .bin .geq 3 (.tmp 21) (.tmp 24), (some (19, false)), false⟩,
    ⟨(some 26), .pick (.tmp 19) (.const (.bool true)) (.tmp 25), none, false⟩]
def ac50_L1 : AC :=
  .seq (.region false [⟨(some 30), .bin .lss 3 (.tmp 29) (.tmp 28), none, false⟩])
    (.seq (.cond (.tmp 30)
        (.skip)
        (.exit 1))
      (.seq (.block 2 (.seq (.region false [⟨(some 31), .iaddr 1 (.tmp 27) (.tmp 29), none, false⟩,
                ⟨(some 32), .load 1 false (.tmp 31), none, false⟩,
                ⟨(some 8), .move (.tmp 32), none, false⟩])
            (.seq (.region false [⟨(some 33), .move (.tmp 8), none, false⟩,
                  ⟨(some 34), .faddr 1 1 false (.tmp 4), none, false⟩,
                  ⟨(some 35), .load 1 false (.tmp 34), none, false⟩,
                  ⟨(some 36), .bin .eql 3 (.tmp 33) (.tmp 35), none, false⟩])
              (.cond (.tmp 36)
                (.seq (.region false [⟨(some 6), .move (.const (.int .i64 7)), none, false⟩])
                  (.ret))
                (.skip)))))
        (.region false [⟨(some 37), .bin .add 3 (.tmp 29) (.const (.int .i64 1)), none, false⟩,
            ⟨(some 29), .move (.tmp 37), none, false⟩])))
def ac50_G2 : List AOper :=
  [⟨(some 42), .faddr 3 1 false (.tmp 4), (some (41, true)), false⟩,
    ⟨(some 43), .load 1 false (.tmp 42), (some (41, true)), false⟩,
    ⟨(some 44), .bi .len [28].toArray 3 [(.tmp 43)], (some (41, true)), false⟩,
    ⟨(some 45), .faddr 4 1 false (.tmp 4), (some (41, true)), false⟩,
    ⟨(some 46), .load 1 false (.tmp 45), (some (41, true)), false⟩,
    ⟨(some 47), .bi .len [28].toArray 3 [(.tmp 46)], (some (41, true)), false⟩,
    ⟨(some 48), .bin .add 3 (.tmp 44) (.tmp 47), (some (41, true)), false⟩,
    ⟨(some 49), .bin .gtr 3 (.tmp 48) (.const (.int .i64 0)), (some (41, true)), false⟩,
    ⟨(some 50), .pick (.tmp 41) (.tmp 49) (.const (.bool false)), none, false⟩]
/-- patchbay/control.checkNode -/
def ac50 : AC :=
  .seq (.region false [⟨(some 3), .box false 31 (.tmp 0), none, false⟩,
        ⟨(some 4), .box false 40 (.tmp 1), none, false⟩,
        ⟨(some 6), .move (.const (.int .i64 0)), none, false⟩])
    (.seq (.seq (.region false [⟨(some 11), .faddr 0 1 false (.tmp 4), none, false⟩,
            ⟨(some 12), .load 1 false (.tmp 11), none, false⟩])
        (.block 0 (.seq (.seq (.region false [⟨(some 14), .bin .eql 3 (.tmp 12) (.const (.int .i64 1)), none, false⟩,
                  ⟨(some 13), .move (.tmp 14), none, false⟩])
              (.cond (.tmp 13)
                (.skip)
                (.region false [⟨(some 15), .bin .eql 3 (.tmp 12) (.const (.int .i64 3)), none, false⟩,
                    ⟨(some 13), .move (.tmp 15), none, false⟩])))
            (.cond (.tmp 13)
              (.seq (.seq (.region false (⟨(some 16), .faddr 1 1 false (.tmp 4), none, false⟩ :: ⟨(some 17), .load 1 false (.tmp 16), none, false⟩ :: ⟨(some 18), .bin .lss 3 (.tmp 17) (.const (.int .i64 0)), none, false⟩ :: ⟨(some 19), .move (.tmp 18), none, false⟩ :: (ac50_G1 ++ [])))
                  (.cond (.tmp 26)
                    (.seq (.region false [⟨(some 6), .move (.const (.int .i64 8)), none, false⟩])
                      (.ret))
                    (.skip)))
                (.seq (.seq (.region false [⟨(some 27), .move (.tmp 2), none, false⟩,
                        ⟨(some 28), .bi .len [29].toArray 3 [(.tmp 27)], none, false⟩,
                        ⟨(some 29), .move (.const (.int .i64 0)), none, false⟩])
                    (.block 1 (.loop ac50_L1)))
                  (.seq (.region false (⟨(some 38), .faddr 0 1 false (.tmp 4), none, false⟩ :: ⟨(some 39), .load 1 false (.tmp 38), none, false⟩ :: ⟨(some 40), .bin .eql 3 (.tmp 39) (.const (.int .i64 1)), none, false⟩ :: ⟨(some 41), .move (.tmp 40), none, false⟩ :: (ac50_G2 ++ [])))
                    (.cond (.tmp 50)
                      (.seq (.region false [⟨(some 6), .move (.const (.int .i64 5)), none, false⟩])
                        (.ret))
                      (.skip)))))
              (.seq (.region false [⟨(some 52), .bin .eql 3 (.tmp 12) (.const (.int .i64 2)), none, false⟩,
                    ⟨(some 51), .move (.tmp 52), none, false⟩])
                (.cond (.tmp 51)
                  (.seq (.region false [⟨(some 54), .faddr 2 1 false (.tmp 4), none, false⟩,
                        ⟨(some 55), .load 1 false (.tmp 54), none, false⟩,
                        ⟨(some 56), .load 9 true (.tmp 3), none, false⟩,
                        ⟨(some 57), .build [(.string ⟨[].toArray⟩), (.slice none 0 0), (.slice none 0 0), (.slice none 0 0), (.slice none 0 0), (.slice none 0 0), (.slice none 0 0), (.slice none 0 0), (.slice none 0 0), (.slice none 0 0)] [(0, 9, (.tmp 56))], none, false⟩,
                        ⟨(some 58), .call (.func 75) [(.tmp 55), (.tmp 57)], none, false⟩,
                        ⟨(some 53), .move (.tmp 58), none, false⟩,
                        ⟨(some 59), .extract (.tmp 53) 0, none, false⟩,
                        ⟨(some 60), .extract (.tmp 53) 1, none, false⟩,
                        ⟨(some 9), .move (.tmp 59), none, false⟩,
                        ⟨(some 10), .move (.tmp 60), none, false⟩])
                    (.seq (.seq (.region false [⟨(some 61), .move (.tmp 10), none, false⟩,
                            ⟨(some 62), .bin .neq 35 (.tmp 61) (.const (.int .i64 0)), none, false⟩])
                        (.cond (.tmp 62)
                          (.seq (.region false [⟨(some 63), .move (.tmp 10), none, false⟩,
                                ⟨(some 6), .move (.tmp 63), none, false⟩])
                            (.ret))
                          (.skip)))
                      (.seq (.region false [⟨(some 64), .move (.tmp 9), none, false⟩,
                            ⟨(some 65), .bin .neq 3 (.tmp 64) (.const (.int .i64 1)), none, false⟩])
                        (.cond (.tmp 65)
                          (.seq (.region false [⟨(some 6), .move (.const (.int .i64 10)), none, false⟩])
                            (.ret))
                          (.skip)))))
                  (.seq (.region false [⟨(some 6), .move (.const (.int .i64 11)), none, false⟩])
                    (.ret))))))))
      (.seq (.region false [⟨(some 6), .move (.const (.int .i64 0)), none, false⟩])
        (.ret)))
theorem text50 : FnText Try.prog 50 [] 66 3 ac50 [(6, none)] :=
  ⟨Try.call50, follows, Try.f50, _, Try.func50, rfl, rfl, by decide, by kernel_rfl, by kernel_rfl⟩


/-- patchbay/expr.Check -/
def ac75 : AC :=
  .seq (.region false [⟨(some 3), .box false 120 (.tmp 1), none, false⟩,
        ⟨(some 4), .move (.const (.int .i64 0)), none, false⟩,
        ⟨(some 5), .move (.const (.int .i64 0)), none, false⟩])
    (.seq (.seq (.region false [⟨(some 7), .move (.tmp 0), none, false⟩,
            ⟨(some 8), .bi .len [38].toArray 3 [(.tmp 7)], none, false⟩,
            ⟨(some 9), .bin .gtr 3 (.tmp 8) (.const (.int .i64 24)), none, false⟩])
        (.cond (.tmp 9)
          (.seq (.region false [⟨(some 4), .move (.const (.int .i64 0)), none, false⟩,
                ⟨(some 5), .move (.const (.int .i64 12)), none, false⟩])
            (.ret))
          (.skip)))
      (.seq (.region false [⟨(some 11), .load 10 true (.tmp 3), none, false⟩,
            ⟨(some 12), .move (.tmp 0), none, false⟩,
            ⟨(some 13), .call (.func 84) [(.tmp 11), (.tmp 12), (.const (.int .i64 0))], none, false⟩,
            ⟨(some 10), .move (.tmp 13), none, false⟩,
            ⟨(some 14), .extract (.tmp 10) 0, none, false⟩,
            ⟨(some 15), .extract (.tmp 10) 1, none, false⟩,
            ⟨(some 16), .extract (.tmp 10) 2, none, false⟩,
            ⟨(some 4), .move (.tmp 14), none, false⟩,
            ⟨(some 6), .move (.tmp 15), none, false⟩,
            ⟨(some 5), .move (.tmp 16), none, false⟩])
        (.seq (.block 0 (.seq (.region false [⟨(some 18), .move (.tmp 5), none, false⟩,
                  ⟨(some 19), .bin .neq 35 (.tmp 18) (.const (.int .i64 0)), none, false⟩,
                  ⟨(some 17), .move (.tmp 19), none, false⟩])
              (.cond (.tmp 17)
                (.seq (.region false [⟨(some 20), .move (.tmp 5), none, false⟩,
                      ⟨(some 4), .move (.const (.int .i64 0)), none, false⟩,
                      ⟨(some 5), .move (.tmp 20), none, false⟩])
                  (.ret))
                (.seq (.region false [⟨(some 22), .move (.tmp 6), none, false⟩,
                      ⟨(some 23), .move (.tmp 0), none, false⟩,
                      ⟨(some 24), .bi .len [38].toArray 3 [(.tmp 23)], none, false⟩,
                      ⟨(some 25), .bin .lss 3 (.tmp 22) (.tmp 24), none, false⟩,
                      ⟨(some 21), .move (.tmp 25), none, false⟩])
                  (.cond (.tmp 21)
                    (.seq (.region false [⟨(some 4), .move (.const (.int .i64 0)), none, false⟩,
                          ⟨(some 5), .move (.const (.int .i64 4)), none, false⟩])
                      (.ret))
                    (.skip))))))
          (.seq (.region false [⟨(some 26), .move (.tmp 4), none, false⟩,
                ⟨(some 4), .move (.tmp 26), none, false⟩,
                ⟨(some 5), .move (.const (.int .i64 0)), none, false⟩])
            (.ret)))))
theorem text75 : FnText Try.prog 75 [] 27 2 ac75 [(4, none), (5, none)] :=
  ⟨Try.call75, follows, Try.f75, _, Try.func75, rfl, rfl, by decide, by kernel_rfl, by kernel_rfl⟩

def ac84_L1 : AC :=
  .seq (.region false [⟨(some 45), .bin .lss 3 (.tmp 44) (.tmp 43), none, false⟩])
    (.seq (.cond (.tmp 45)
        (.skip)
        (.exit 1))
      (.seq (.block 2 (.seq (.region false [⟨(some 46), .move (.tmp 44), none, false⟩,
                ⟨(some 11), .move (.tmp 46), none, false⟩])
            (.seq (.region false [⟨(some 48), .move (.tmp 11), none, false⟩,
                  ⟨(some 49), .load 10 true (.tmp 3), none, false⟩,
                  ⟨(some 50), .move (.tmp 1), none, false⟩,
                  ⟨(some 51), .move (.tmp 7), none, false⟩,
                  ⟨(some 52), .call (.func 84) [(.tmp 49), (.tmp 50), (.tmp 51)], none, false⟩,
                  ⟨(some 47), .move (.tmp 52), none, false⟩,
                  ⟨(some 53), .extract (.tmp 47) 0, none, false⟩,
                  ⟨(some 54), .extract (.tmp 47) 1, none, false⟩,
                  ⟨(some 55), .extract (.tmp 47) 2, none, false⟩,
                  ⟨(some 56), .iaddrA 3 1 false (.tmp 10) (.tmp 48), none, false⟩,
                  ⟨none, .store 1 (.tmp 56) (.tmp 53), none, false⟩,
                  ⟨(some 7), .move (.tmp 54), none, false⟩,
                  ⟨(some 8), .move (.tmp 55), none, false⟩])
              (.seq (.region false [⟨(some 57), .move (.tmp 8), none, false⟩,
                    ⟨(some 58), .bin .neq 35 (.tmp 57) (.const (.int .i64 0)), none, false⟩])
                (.cond (.tmp 58)
                  (.seq (.region false [⟨(some 59), .move (.tmp 8), none, false⟩,
                        ⟨(some 6), .move (.const (.int .i64 0)), none, false⟩,
                        ⟨(some 7), .move (.const (.int .i64 0)), none, false⟩,
                        ⟨(some 8), .move (.tmp 59), none, false⟩])
                    (.ret))
                  (.skip))))))
        (.region false [⟨(some 60), .bin .add 3 (.tmp 44) (.const (.int .i64 1)), none, false⟩,
            ⟨(some 44), .move (.tmp 60), none, false⟩])))
/-- (patchbay/expr.Scope).check -/
def ac84 : AC :=
  .seq (.region false [⟨(some 3), .box false 120 (.tmp 0), none, false⟩,
        ⟨(some 6), .move (.const (.int .i64 0)), none, false⟩,
        ⟨(some 7), .move (.const (.int .i64 0)), none, false⟩,
        ⟨(some 8), .move (.const (.int .i64 0)), none, false⟩])
    (.seq (.seq (.region false [⟨(some 12), .move (.tmp 2), none, false⟩,
            ⟨(some 13), .move (.tmp 1), none, false⟩,
            ⟨(some 14), .bi .len [38].toArray 3 [(.tmp 13)], none, false⟩,
            ⟨(some 15), .bin .geq 3 (.tmp 12) (.tmp 14), none, false⟩])
        (.cond (.tmp 15)
          (.seq (.region false [⟨(some 6), .move (.const (.int .i64 0)), none, false⟩,
                ⟨(some 7), .move (.const (.int .i64 0)), none, false⟩,
                ⟨(some 8), .move (.const (.int .i64 3)), none, false⟩])
            (.ret))
          (.skip)))
      (.seq (.region false [⟨(some 16), .move (.tmp 1), none, false⟩,
            ⟨(some 17), .move (.tmp 2), none, false⟩,
            ⟨(some 18), .iaddr 3 (.tmp 16) (.tmp 17), none, false⟩,
            ⟨(some 19), .faddr 0 1 false (.tmp 18), none, false⟩,
            ⟨(some 20), .load 1 false (.tmp 19), none, false⟩,
            ⟨(some 21), .call (.func 86) [(.tmp 20)], none, false⟩,
            ⟨(some 9), .move (.tmp 21), none, false⟩])
        (.seq (.block 0 (.seq (.region false [⟨(some 23), .move (.tmp 9), none, false⟩,
                  ⟨(some 24), .bin .lss 3 (.tmp 23) (.const (.int .i64 0)), none, false⟩,
                  ⟨(some 22), .move (.tmp 24), none, false⟩])
              (.cond (.tmp 22)
                (.seq (.region false [⟨(some 6), .move (.const (.int .i64 0)), none, false⟩,
                      ⟨(some 7), .move (.const (.int .i64 0)), none, false⟩,
                      ⟨(some 8), .move (.const (.int .i64 11)), none, false⟩])
                  (.ret))
                (.seq (.region false [⟨(some 26), .move (.tmp 9), none, false⟩,
                      ⟨(some 27), .bin .eql 3 (.tmp 26) (.const (.int .i64 0)), none, false⟩,
                      ⟨(some 25), .move (.tmp 27), none, false⟩])
                  (.cond (.tmp 25)
                    (.seq (.region true [⟨(some 29), .load 10 true (.tmp 3), none, false⟩,
                          ⟨(some 30), .move (.tmp 1), none, false⟩,
                          ⟨(some 31), .move (.tmp 2), none, false⟩,
                          ⟨(some 32), .iaddr 3 (.tmp 30) (.tmp 31), none, false⟩,
                          ⟨(some 33), .load 3 true (.tmp 32), none, false⟩,
                          ⟨(some 34), .call (.func 87) [(.tmp 29), (.tmp 33)], none, false⟩,
                          ⟨(some 28), .move (.tmp 34), none, false⟩,
                          ⟨(some 35), .extract (.tmp 28) 0, none, false⟩,
                          ⟨(some 36), .extract (.tmp 28) 1, none, false⟩,
                          ⟨(some 6), .move (.tmp 35), none, false⟩,
                          ⟨(some 8), .move (.tmp 36), none, false⟩])
                      (.seq (.region false [⟨(some 37), .move (.tmp 6), none, false⟩,
                            ⟨(some 38), .move (.tmp 2), none, false⟩,
                            ⟨(some 39), .bin .add 3 (.tmp 38) (.const (.int .i64 1)), none, false⟩,
                            ⟨(some 40), .move (.tmp 8), none, false⟩,
                            ⟨(some 6), .move (.tmp 37), none, false⟩,
                            ⟨(some 7), .move (.tmp 39), none, false⟩,
                            ⟨(some 8), .move (.tmp 40), none, false⟩])
                        (.ret)))
                    (.skip))))))
          (.seq (.region false [⟨(some 10), .alloc true 142 (.agg [(.int .i64 0), (.int .i64 0), (.int .i64 0)].toArray), none, false⟩])
            (.seq (.region false [⟨(some 41), .move (.tmp 2), none, false⟩,
                  ⟨(some 42), .bin .add 3 (.tmp 41) (.const (.int .i64 1)), none, false⟩,
                  ⟨(some 7), .move (.tmp 42), none, false⟩])
              (.seq (.seq (.region false [⟨(some 43), .move (.tmp 9), none, false⟩,
                      ⟨(some 44), .move (.const (.int .i64 0)), none, false⟩])
                  (.block 1 (.loop ac84_L1)))
                (.seq (.region true [⟨(some 62), .move (.tmp 1), none, false⟩,
                      ⟨(some 63), .move (.tmp 2), none, false⟩,
                      ⟨(some 64), .iaddr 3 (.tmp 62) (.tmp 63), none, false⟩,
                      ⟨(some 65), .load 3 true (.tmp 64), none, false⟩,
                      ⟨(some 66), .load 3 true (.tmp 10), none, false⟩,
                      ⟨(some 67), .call (.func 88) [(.tmp 65), (.tmp 66)], none, false⟩,
                      ⟨(some 61), .move (.tmp 67), none, false⟩,
                      ⟨(some 68), .extract (.tmp 61) 0, none, false⟩,
                      ⟨(some 69), .extract (.tmp 61) 1, none, false⟩,
                      ⟨(some 6), .move (.tmp 68), none, false⟩,
                      ⟨(some 8), .move (.tmp 69), none, false⟩])
                  (.seq (.region false [⟨(some 70), .move (.tmp 6), none, false⟩,
                        ⟨(some 71), .move (.tmp 7), none, false⟩,
                        ⟨(some 72), .move (.tmp 8), none, false⟩,
                        ⟨(some 6), .move (.tmp 70), none, false⟩,
                        ⟨(some 7), .move (.tmp 71), none, false⟩,
                        ⟨(some 8), .move (.tmp 72), none, false⟩])
                    (.ret)))))))))
theorem text84 : FnText Try.prog 84 [10] 73 3 ac84 [(6, none), (7, none), (8, none)] :=
  ⟨Try.call84, follows, Try.f84, _, Try.func84, rfl, rfl, by decide, by kernel_rfl, by kernel_rfl⟩


/-- patchbay/expr.arity -/
def ac86 : AC :=
  .seq (.region false [⟨(some 2), .move (.const (.int .i64 0)), none, false⟩])
    (.seq (.seq (.region false [⟨(some 3), .move (.tmp 0), none, false⟩])
        (.block 0 (.seq (.seq (.region false [⟨(some 5), .bin .eql 3 (.tmp 3) (.const (.int .i64 1)), none, false⟩,
                  ⟨(some 4), .move (.tmp 5), none, false⟩])
              (.cond (.tmp 4)
                (.skip)
                (.seq (.region false [⟨(some 6), .bin .eql 3 (.tmp 3) (.const (.int .i64 2)), none, false⟩,
                      ⟨(some 4), .move (.tmp 6), none, false⟩])
                  (.cond (.tmp 4)
                    (.skip)
                    (.seq (.region false [⟨(some 7), .bin .eql 3 (.tmp 3) (.const (.int .i64 3)), none, false⟩,
                          ⟨(some 4), .move (.tmp 7), none, false⟩])
                      (.cond (.tmp 4)
                        (.skip)
                        (.region false [⟨(some 8), .bin .eql 3 (.tmp 3) (.const (.int .i64 4)), none, false⟩,
                            ⟨(some 4), .move (.tmp 8), none, false⟩])))))))
            (.cond (.tmp 4)
              (.seq (.region false [⟨(some 2), .move (.const (.int .i64 0)), none, false⟩])
                (.ret))
              (.seq (.seq (.region false [⟨(some 10), .bin .eql 3 (.tmp 3) (.const (.int .i64 5)), none, false⟩,
                      ⟨(some 9), .move (.tmp 10), none, false⟩])
                  (.cond (.tmp 9)
                    (.skip)
                    (.seq (.region false [⟨(some 11), .bin .eql 3 (.tmp 3) (.const (.int .i64 6)), none, false⟩,
                          ⟨(some 9), .move (.tmp 11), none, false⟩])
                      (.cond (.tmp 9)
                        (.skip)
                        (.seq (.region false [⟨(some 12), .bin .eql 3 (.tmp 3) (.const (.int .i64 7)), none, false⟩,
                              ⟨(some 9), .move (.tmp 12), none, false⟩])
                          (.cond (.tmp 9)
                            (.skip)
                            (.region false [⟨(some 13), .bin .eql 3 (.tmp 3) (.const (.int .i64 8)), none, false⟩,
                                ⟨(some 9), .move (.tmp 13), none, false⟩])))))))
                (.cond (.tmp 9)
                  (.seq (.region false [⟨(some 2), .move (.const (.int .i64 1)), none, false⟩])
                    (.ret))
                  (.seq (.seq (.region false [⟨(some 15), .bin .eql 3 (.tmp 3) (.const (.int .i64 9)), none, false⟩,
                          ⟨(some 14), .move (.tmp 15), none, false⟩])
                      (.cond (.tmp 14)
                        (.skip)
                        (.seq (.region false [⟨(some 16), .bin .eql 3 (.tmp 3) (.const (.int .i64 10)), none, false⟩,
                              ⟨(some 14), .move (.tmp 16), none, false⟩])
                          (.cond (.tmp 14)
                            (.skip)
                            (.seq (.region false [⟨(some 17), .bin .eql 3 (.tmp 3) (.const (.int .i64 11)), none, false⟩,
                                  ⟨(some 14), .move (.tmp 17), none, false⟩])
                              (.cond (.tmp 14)
                                (.skip)
                                (.seq (.region false [⟨(some 18), .bin .eql 3 (.tmp 3) (.const (.int .i64 12)), none, false⟩,
                                      ⟨(some 14), .move (.tmp 18), none, false⟩])
                                  (.cond (.tmp 14)
                                    (.skip)
                                    (.seq (.region false [⟨(some 19), .bin .eql 3 (.tmp 3) (.const (.int .i64 13)), none, false⟩,
                                          ⟨(some 14), .move (.tmp 19), none, false⟩])
                                      (.cond (.tmp 14)
                                        (.skip)
                                        (.seq (.region false [⟨(some 20), .bin .eql 3 (.tmp 3) (.const (.int .i64 14)), none, false⟩,
                                              ⟨(some 14), .move (.tmp 20), none, false⟩])
                                          (.cond (.tmp 14)
                                            (.skip)
                                            (.seq (.region false [⟨(some 21), .bin .eql 3 (.tmp 3) (.const (.int .i64 15)), none, false⟩,
                                                  ⟨(some 14), .move (.tmp 21), none, false⟩])
                                              (.cond (.tmp 14)
                                                (.skip)
                                                (.region false [⟨(some 22), .bin .eql 3 (.tmp 3) (.const (.int .i64 16)), none, false⟩,
                                                    ⟨(some 14), .move (.tmp 22), none, false⟩])))))))))))))))
                    (.cond (.tmp 14)
                      (.seq (.region false [⟨(some 2), .move (.const (.int .i64 2)), none, false⟩])
                        (.ret))
                      (.seq (.region false [⟨(some 24), .bin .eql 3 (.tmp 3) (.const (.int .i64 17)), none, false⟩,
                            ⟨(some 23), .move (.tmp 24), none, false⟩])
                        (.cond (.tmp 23)
                          (.seq (.region false [⟨(some 2), .move (.const (.int .i64 3)), none, false⟩])
                            (.ret))
                          (.skip)))))))))))
      (.seq (.region false [⟨(some 2), .move (.const (.int .i64 (-1))), none, false⟩])
        (.ret)))
theorem text86 : FnText Try.prog 86 [] 25 1 ac86 [(2, none)] :=
  ⟨Try.call86, follows, Try.f86, _, Try.func86, rfl, rfl, by decide, by kernel_rfl, by kernel_rfl⟩

def ac87_G2 : List AOper :=
  [⟨(some 27), .faddr 1 1 false (.tmp 3), (some (26, false)), false⟩,
    ⟨(some 28), .load 1 false (.tmp 27), (some (26, false)), false⟩,
    ⟨(some 29), .move (.tmp 6), (some (26, false)), false⟩,
    ⟨(some 30), .call (.func 93) [(.tmp 29)], (some (26, false)), false⟩,
    ⟨(some 31), .conv 147 3 (.tmp 30), (some (26, false)), false⟩,
    ⟨(some 32), .bin .gtr 3 (.tmp 28) (.tmp 31), (some (26, false)), false⟩,
    ⟨(some 33), .pick (.tmp 26) (.const (.bool true)) (.tmp 32), (some (22, true)), false⟩]
def ac87_G1 : List AOper :=
  (⟨(some 23), .faddr 1 1 false (.tmp 3), (some (22, true)), false⟩ :: ⟨(some 24), .load 1 false (.tmp 23), (some (22, true)), false⟩ :: ⟨(some 25), .bin .lss 3 (.tmp 24) (.const (.int .i64 0)), (some (22, true)), false⟩ :: ⟨(some 26), .move (.tmp 25), (some (22, true)), false⟩ :: (ac87_G2 ++ [⟨(some 34), .pick (.tmp 22) (.tmp 33) (.const (.bool false)), none, false⟩]))
def ac87_G3 : List AOper :=
  [⟨(some 61), .faddr 1 1 false (.tmp 3), (some (60, false)), false⟩,
    ⟨(some 62), .load 1 false (.tmp 61), (some (60, false)), false⟩,
    ⟨(some 63), .faddr 9 1 false (.tmp 2), (some (60, false)), false⟩,
    ⟨(some 64), .load 1 false (.tmp 63), (some (60, false)), false⟩,
    ⟨(some 65), .bi .len [23].toArray 3 [(.tmp 64)], (some (60, false)), false⟩,
    ⟨(some 66), .bin .geq 3 (.tmp 62) (.tmp 65), (some (60, false)), false⟩,
    ⟨(some 67), .pick (.tmp 60) (.const (.bool true)) (.tmp 66), none, false⟩]
def ac87_G4 : List AOper :=
  [⟨(some 82), .faddr 1 1 false (.tmp 3), (some (81, false)), false⟩,
    ⟨(some 83), .load 1 false (.tmp 82), (some (81, false)), false⟩,
    ⟨(some 84), .faddr 0 9 true (.tmp 2), (some (81, false)), false⟩,
    ⟨(some 85), .faddr 1 1 false (.tmp 84), (some (81, false)), false⟩,
    ⟨(some 86), .load 1 false (.tmp 85), (some (81, false)), false⟩,
    ⟨(some 87), .bi .len [22].toArray 3 [(.tmp 86)], (some (81, false)), false⟩,
    ⟨(some 88), .bin .geq 3 (.tmp 83) (.tmp 87), (some (81, false)), false⟩,
    ⟨(some 89), .pick (.tmp 81) (.const (.bool true)) (.tmp 88), none, false⟩]
/-- (patchbay/expr.Scope).primary -/
def ac87 : AC :=
  .seq (.region false [⟨(some 2), .box false 120 (.tmp 0), none, false⟩,
        ⟨(some 3), .box false 106 (.tmp 1), none, false⟩,
        ⟨(some 4), .move (.const (.int .i64 0)), none, false⟩,
        ⟨(some 5), .move (.const (.int .i64 0)), none, false⟩])
    (.seq (.seq (.region false [⟨(some 10), .faddr 0 1 false (.tmp 3), none, false⟩,
            ⟨(some 11), .load 1 false (.tmp 10), none, false⟩])
        (.block 0 (.seq (.region false [⟨(some 13), .bin .eql 3 (.tmp 11) (.const (.int .i64 1)), none, false⟩,
                ⟨(some 12), .move (.tmp 13), none, false⟩])
            (.cond (.tmp 12)
              (.seq (.region false [⟨(some 15), .faddr 2 1 false (.tmp 3), none, false⟩,
                    ⟨(some 16), .load 1 false (.tmp 15), none, false⟩,
                    ⟨(some 17), .call (.func 92) [(.tmp 16)], none, false⟩,
                    ⟨(some 14), .move (.tmp 17), none, false⟩,
                    ⟨(some 18), .extract (.tmp 14) 0, none, false⟩,
                    ⟨(some 19), .extract (.tmp 14) 1, none, false⟩,
                    ⟨(some 6), .move (.tmp 18), none, false⟩,
                    ⟨(some 7), .move (.tmp 19), none, false⟩])
                (.seq (.seq (.region true (⟨(some 20), .move (.tmp 7), none, false⟩ :: ⟨(some 21), .bin .eql 35 (.tmp 20) (.const (.int .i64 0)), none, false⟩ :: ⟨(some 22), .move (.tmp 21), none, false⟩ :: (ac87_G1 ++ [])))
                    (.cond (.tmp 34)
                      (.seq (.region false [⟨(some 4), .move (.const (.int .i64 0)), none, false⟩,
                            ⟨(some 5), .move (.const (.int .i64 9)), none, false⟩])
                        (.ret))
                      (.skip)))
                  (.seq (.region false [⟨(some 35), .move (.tmp 6), none, false⟩,
                        ⟨(some 36), .move (.tmp 7), none, false⟩,
                        ⟨(some 4), .move (.tmp 35), none, false⟩,
                        ⟨(some 5), .move (.tmp 36), none, false⟩])
                    (.ret))))
              (.seq (.region false [⟨(some 38), .bin .eql 3 (.tmp 11) (.const (.int .i64 2)), none, false⟩,
                    ⟨(some 37), .move (.tmp 38), none, false⟩])
                (.cond (.tmp 37)
                  (.seq (.region false [⟨(some 40), .load 10 true (.tmp 2), none, false⟩,
                        ⟨(some 41), .faddr 1 1 false (.tmp 3), none, false⟩,
                        ⟨(some 42), .load 1 false (.tmp 41), none, false⟩,
                        ⟨(some 43), .faddr 2 1 false (.tmp 3), none, false⟩,
                        ⟨(some 44), .load 1 false (.tmp 43), none, false⟩,
                        ⟨(some 45), .call (.func 94) [(.tmp 40), (.tmp 42), (.tmp 44)], none, false⟩,
                        ⟨(some 39), .move (.tmp 45), none, false⟩,
                        ⟨(some 46), .extract (.tmp 39) 0, none, false⟩,
                        ⟨(some 47), .extract (.tmp 39) 1, none, false⟩,
                        ⟨(some 8), .alloc true 115 (.agg [(.string ⟨[].toArray⟩), (.int .i64 0)].toArray), none, false⟩,
                        ⟨none, .store 2 (.tmp 8) (.tmp 46), none, false⟩,
                        ⟨(some 9), .move (.tmp 47), none, false⟩])
                    (.seq (.seq (.region false [⟨(some 48), .move (.tmp 9), none, false⟩,
                            ⟨(some 49), .un .not (.tmp 48), none, false⟩])
                        (.cond (.tmp 49)
                          (.seq (.region false [⟨(some 4), .move (.const (.int .i64 0)), none, false⟩,
                                ⟨(some 5), .move (.const (.int .i64 8)), none, false⟩])
                            (.ret))
                          (.skip)))
                      (.seq (.region false [⟨(some 50), .faddr 1 1 false (.tmp 8), none, false⟩,
                            ⟨(some 51), .load 1 false (.tmp 50), none, false⟩,
                            ⟨(some 52), .call (.func 92) [(.tmp 51)], none, false⟩,
                            ⟨(some 53), .extract (.tmp 52) 0, none, false⟩,
                            ⟨(some 54), .extract (.tmp 52) 1, none, false⟩,
                            ⟨(some 4), .move (.tmp 53), none, false⟩,
                            ⟨(some 5), .move (.tmp 54), none, false⟩])
                        (.ret))))
                  (.seq (.region false [⟨(some 56), .bin .eql 3 (.tmp 11) (.const (.int .i64 3)), none, false⟩,
                        ⟨(some 55), .move (.tmp 56), none, false⟩])
                    (.cond (.tmp 55)
                      (.seq (.seq (.region false (⟨(some 57), .faddr 1 1 false (.tmp 3), none, false⟩ :: ⟨(some 58), .load 1 false (.tmp 57), none, false⟩ :: ⟨(some 59), .bin .lss 3 (.tmp 58) (.const (.int .i64 0)), none, false⟩ :: ⟨(some 60), .move (.tmp 59), none, false⟩ :: (ac87_G3 ++ [])))
                          (.cond (.tmp 67)
                            (.seq (.region false [⟨(some 4), .move (.const (.int .i64 0)), none, false⟩,
                                  ⟨(some 5), .move (.const (.int .i64 8)), none, false⟩])
                              (.ret))
                            (.skip)))
                        (.seq (.region false [⟨(some 68), .faddr 9 1 false (.tmp 2), none, false⟩,
                              ⟨(some 69), .load 1 false (.tmp 68), none, false⟩,
                              ⟨(some 70), .faddr 1 1 false (.tmp 3), none, false⟩,
                              ⟨(some 71), .load 1 false (.tmp 70), none, false⟩,
                              ⟨(some 72), .iaddr 2 (.tmp 69) (.tmp 71), none, false⟩,
                              ⟨(some 73), .faddr 1 1 false (.tmp 72), none, false⟩,
                              ⟨(some 74), .load 1 false (.tmp 73), none, false⟩,
                              ⟨(some 75), .call (.func 92) [(.tmp 74)], none, false⟩,
                              ⟨(some 76), .extract (.tmp 75) 0, none, false⟩,
                              ⟨(some 77), .extract (.tmp 75) 1, none, false⟩,
                              ⟨(some 4), .move (.tmp 76), none, false⟩,
                              ⟨(some 5), .move (.tmp 77), none, false⟩])
                          (.ret)))
                      (.skip)))))))))
      (.seq (.seq (.region false (⟨(some 78), .faddr 1 1 false (.tmp 3), none, false⟩ :: ⟨(some 79), .load 1 false (.tmp 78), none, false⟩ :: ⟨(some 80), .bin .lss 3 (.tmp 79) (.const (.int .i64 0)), none, false⟩ :: ⟨(some 81), .move (.tmp 80), none, false⟩ :: (ac87_G4 ++ [])))
          (.cond (.tmp 89)
            (.seq (.region false [⟨(some 4), .move (.const (.int .i64 0)), none, false⟩,
                  ⟨(some 5), .move (.const (.int .i64 8)), none, false⟩])
              (.ret))
            (.skip)))
        (.seq (.region false [⟨(some 4), .move (.const (.int .i64 1)), none, false⟩,
              ⟨(some 5), .move (.const (.int .i64 0)), none, false⟩])
          (.ret))))
theorem text87 : FnText Try.prog 87 [8] 90 2 ac87 [(4, none), (5, none)] :=
  ⟨Try.call87, follows, Try.f87, _, Try.func87, rfl, rfl, by decide, by kernel_rfl, by kernel_rfl⟩

def ac92_G1 : List AOper :=
  [⟨(some 7), .move (.tmp 0), (some (6, false)), false⟩,
    ⟨(some 8), .bin .gtr 3 (.tmp 7) (.const (.int .i64 32)), (some (6, false)), false⟩,
    ⟨(some 9), .pick (.tmp 6) (.const (.bool true)) (.tmp 8), none, false⟩]
/-- patchbay/expr.wide -/
def ac92 : AC :=
  .seq (.region false [⟨(some 2), .move (.const (.int .i64 0)), none, false⟩,
        ⟨(some 3), .move (.const (.int .i64 0)), none, false⟩])
    (.seq (.seq (.region false (⟨(some 4), .move (.tmp 0), none, false⟩ :: ⟨(some 5), .bin .lss 3 (.tmp 4) (.const (.int .i64 1)), none, false⟩ :: ⟨(some 6), .move (.tmp 5), none, false⟩ :: (ac92_G1 ++ [])))
        (.cond (.tmp 9)
          (.seq (.region false [⟨(some 2), .move (.const (.int .i64 0)), none, false⟩,
                ⟨(some 3), .move (.const (.int .i64 10)), none, false⟩])
            (.ret))
          (.skip)))
      (.seq (.region false [⟨(some 10), .move (.tmp 0), none, false⟩,
            ⟨(some 2), .move (.tmp 10), none, false⟩,
            ⟨(some 3), .move (.const (.int .i64 0)), none, false⟩])
        (.ret)))
theorem text92 : FnText Try.prog 92 [] 11 1 ac92 [(2, none), (3, none)] :=
  ⟨Try.call92, follows, Try.f92, _, Try.func92, rfl, rfl, by decide, by kernel_rfl, by kernel_rfl⟩


/-- patchbay/bitvec.Mask -/
def ac93 : AC :=
  .seq (.region false [⟨(some 2), .move (.const (.int .u32 0)), none, false⟩])
    (.seq (.seq (.region false [⟨(some 3), .move (.tmp 0), none, false⟩,
            ⟨(some 4), .bslice false 3 1 false [(.tmp 3)], none, false⟩,
            ⟨(some 5), .call (.func 98) [(.tmp 4)], none, false⟩,
            ⟨(some 6), .un .not (.tmp 5), none, false⟩])
        (.cond (.tmp 6)
          (.seq (.region false [⟨(some 2), .move (.const (.int .u32 0)), none, false⟩])
            (.ret))
          (.skip)))
      (.seq (.region false [⟨(some 7), .move (.tmp 0), none, false⟩,
            ⟨(some 8), .bin .sub 3 (.const (.int .i64 32)) (.tmp 7), none, false⟩,
            ⟨(some 9), .bin .shr 147 (.const (.int .u32 4294967295)) (.tmp 8), none, false⟩,
            ⟨(some 2), .move (.tmp 9), none, false⟩])
        (.ret)))
theorem text93 : FnText Try.prog 93 [] 10 1 ac93 [(2, none)] :=
  ⟨Try.call93, follows, Try.f93, _, Try.func93, rfl, rfl, by decide, by kernel_rfl, by kernel_rfl⟩

def ac98_G1 : List AOper :=
  [⟨(some 14), .move (.tmp 4), (some (13, false)), false⟩,
    ⟨(some 15), .bin .gtr 3 (.tmp 14) (.const (.int .i64 32)), (some (13, false)), false⟩,
    ⟨(some 16), .pick (.tmp 13) (.const (.bool true)) (.tmp 15), none, false⟩]
def ac98_L1 : AC :=
  .seq (.region false [⟨(some 8), .bin .lss 3 (.tmp 7) (.tmp 6), none, false⟩])
    (.seq (.cond (.tmp 8)
        (.skip)
        (.exit 0))
      (.seq (.block 1 (.seq (.region false [⟨(some 9), .iaddr 1 (.tmp 5) (.tmp 7), none, false⟩,
                ⟨(some 10), .load 1 false (.tmp 9), none, false⟩,
                ⟨(some 4), .move (.tmp 10), none, false⟩])
            (.seq (.region false (⟨(some 11), .move (.tmp 4), none, false⟩ :: ⟨(some 12), .bin .lss 3 (.tmp 11) (.const (.int .i64 1)), none, false⟩ :: ⟨(some 13), .move (.tmp 12), none, false⟩ :: (ac98_G1 ++ [])))
              (.cond (.tmp 16)
                (.seq (.region false [⟨(some 2), .move (.const (.bool false)), none, false⟩])
                  (.ret))
                (.skip)))))
        (.region false [⟨(some 17), .bin .add 3 (.tmp 7) (.const (.int .i64 1)), none, false⟩,
            ⟨(some 7), .move (.tmp 17), none, false⟩])))
/-- patchbay/bitvec.valid -/
def ac98 : AC :=
  .seq (.region false [⟨(some 2), .move (.const (.bool false)), none, false⟩])
    (.seq (.seq (.region false [⟨(some 5), .move (.tmp 0), none, false⟩,
            ⟨(some 6), .bi .len [29].toArray 3 [(.tmp 5)], none, false⟩,
            ⟨(some 7), .move (.const (.int .i64 0)), none, false⟩])
        (.block 0 (.loop ac98_L1)))
      (.seq (.region false [⟨(some 2), .move (.const (.bool true)), none, false⟩])
        (.ret)))
theorem text98 : FnText Try.prog 98 [] 18 1 ac98 [(2, none)] :=
  ⟨Try.call98, follows, Try.f98, _, Try.func98, rfl, rfl, by decide, by kernel_rfl, by kernel_rfl⟩

def ac94_G1 : List AOper :=
  [⟨(some 17), .move (.tmp 1), (some (16, false)), false⟩,
    ⟨(some 18), .faddr 0 9 true (.tmp 3), (some (16, false)), false⟩,
    ⟨(some 19), .faddr 1 1 false (.tmp 18), (some (16, false)), false⟩,
    ⟨(some 20), .load 1 false (.tmp 19), (some (16, false)), false⟩,
    ⟨(some 21), .bi .len [22].toArray 3 [(.tmp 20)], (some (16, false)), false⟩,
    ⟨(some 22), .bin .geq 3 (.tmp 17) (.tmp 21), (some (16, false)), false⟩,
    ⟨(some 23), .pick (.tmp 16) (.const (.bool true)) (.tmp 22), none, false⟩]
def ac94_G2 : List AOper :=
  [⟨(some 35), .move (.tmp 2), (some (34, false)), false⟩,
    ⟨(some 36), .move (.tmp 8), (some (34, false)), false⟩,
    ⟨(some 37), .bi .len [23].toArray 3 [(.tmp 36)], (some (34, false)), false⟩,
    ⟨(some 38), .bin .geq 3 (.tmp 35) (.tmp 37), (some (34, false)), false⟩,
    ⟨(some 39), .pick (.tmp 34) (.const (.bool true)) (.tmp 38), none, false⟩]
/-- (patchbay/expr.Scope).field -/
def ac94 : AC :=
  .seq (.region false [⟨(some 3), .box false 120 (.tmp 0), none, false⟩,
        ⟨(some 6), .alloc true 115 (.agg [(.string ⟨[].toArray⟩), (.int .i64 0)].toArray), none, false⟩,
        ⟨(some 7), .move (.const (.bool false)), none, false⟩])
    (.seq (.region false [⟨(some 9), .faddr 0 9 true (.tmp 3), none, false⟩,
          ⟨(some 10), .faddr 2 1 false (.tmp 9), none, false⟩,
          ⟨(some 11), .load 1 false (.tmp 10), none, false⟩,
          ⟨(some 8), .move (.tmp 11), none, false⟩])
      (.seq (.seq (.region false [⟨(some 12), .move (.tmp 1), none, false⟩,
              ⟨(some 13), .bin .neq 3 (.tmp 12) (.const (.int .i64 (-1))), none, false⟩])
          (.cond (.tmp 13)
            (.seq (.seq (.region false (⟨(some 14), .move (.tmp 1), none, false⟩ :: ⟨(some 15), .bin .lss 3 (.tmp 14) (.const (.int .i64 0)), none, false⟩ :: ⟨(some 16), .move (.tmp 15), none, false⟩ :: (ac94_G1 ++ [])))
                (.cond (.tmp 23)
                  (.seq (.region false [⟨(some 24), .build [(.string ⟨[].toArray⟩), (.int .i64 0)] [], none, false⟩,
                        ⟨none, .store 2 (.tmp 6) (.tmp 24), none, false⟩,
                        ⟨(some 7), .move (.const (.bool false)), none, false⟩])
                    (.ret))
                  (.skip)))
              (.region false [⟨(some 25), .faddr 0 9 true (.tmp 3), none, false⟩,
                  ⟨(some 26), .faddr 1 1 false (.tmp 25), none, false⟩,
                  ⟨(some 27), .load 1 false (.tmp 26), none, false⟩,
                  ⟨(some 28), .move (.tmp 1), none, false⟩,
                  ⟨(some 29), .iaddr 2 (.tmp 27) (.tmp 28), none, false⟩,
                  ⟨(some 30), .faddr 1 1 false (.tmp 29), none, false⟩,
                  ⟨(some 31), .load 1 false (.tmp 30), none, false⟩,
                  ⟨(some 8), .move (.tmp 31), none, false⟩]))
            (.skip)))
        (.seq (.seq (.region false (⟨(some 32), .move (.tmp 2), none, false⟩ :: ⟨(some 33), .bin .lss 3 (.tmp 32) (.const (.int .i64 0)), none, false⟩ :: ⟨(some 34), .move (.tmp 33), none, false⟩ :: (ac94_G2 ++ [])))
            (.cond (.tmp 39)
              (.seq (.region false [⟨(some 40), .build [(.string ⟨[].toArray⟩), (.int .i64 0)] [], none, false⟩,
                    ⟨none, .store 2 (.tmp 6) (.tmp 40), none, false⟩,
                    ⟨(some 7), .move (.const (.bool false)), none, false⟩])
                (.ret))
              (.skip)))
          (.seq (.region false [⟨(some 41), .move (.tmp 8), none, false⟩,
                ⟨(some 42), .move (.tmp 2), none, false⟩,
                ⟨(some 43), .iaddr 2 (.tmp 41) (.tmp 42), none, false⟩,
                ⟨(some 44), .load 2 true (.tmp 43), none, false⟩,
                ⟨none, .store 2 (.tmp 6) (.tmp 44), none, false⟩,
                ⟨(some 7), .move (.const (.bool true)), none, false⟩])
            (.ret)))))
theorem text94 : FnText Try.prog 94 [6] 45 3 ac94 [(6, some (2, true)), (7, none)] :=
  ⟨Try.call94, follows, Try.f94, _, Try.func94, rfl, rfl, by decide, by kernel_rfl, by kernel_rfl⟩

def ac88_G1 : List AOper :=
  [⟨(some 17), .faddr 1 1 false (.tmp 2), (some (16, false)), false⟩,
    ⟨(some 18), .load 1 false (.tmp 17), (some (16, false)), false⟩,
    ⟨(some 19), .bin .gtr 3 (.tmp 18) (.const (.int .i64 31)), (some (16, false)), false⟩,
    ⟨(some 20), .pick (.tmp 16) (.const (.bool true)) (.tmp 19), none, false⟩]
def ac88_G2 : List AOper :=
  [⟨(some 35), .faddr 1 1 false (.tmp 2), (some (34, false)), false⟩,
    ⟨(some 36), .load 1 false (.tmp 35), (some (34, false)), false⟩,
    ⟨(some 37), .iaddrA 3 1 false (.tmp 3) (.const (.int .i64 0)), (some (34, false)), false⟩,
    ⟨(some 38), .load 1 false (.tmp 37), (some (34, false)), false⟩,
    ⟨(some 39), .faddr 2 1 false (.tmp 2), (some (34, false)), false⟩,
    ⟨(some 40), .load 1 false (.tmp 39), (some (34, false)), false⟩,
    ⟨(some 41), .bin .sub 3 (.tmp 38) (.tmp 40), (some (34, false)), false⟩,
    ⟨(some 42), .bin .gtr 3 (.tmp 36) (.tmp 41), (some (34, false)), false⟩,
    ⟨(some 43), .pick (.tmp 34) (.const (.bool true)) (.tmp 42), none, false⟩]
def ac88_G3 : List AOper :=
  [⟨(some 62), .iaddrA 3 1 false (.tmp 3) (.const (.int .i64 1)), (some (61, false)), false⟩,
    ⟨(some 63), .load 1 false (.tmp 62), (some (61, false)), false⟩,
    ⟨(some 64), .iaddrA 3 1 false (.tmp 3) (.const (.int .i64 2)), (some (61, false)), false⟩,
    ⟨(some 65), .load 1 false (.tmp 64), (some (61, false)), false⟩,
    ⟨(some 66), .bin .neq 3 (.tmp 63) (.tmp 65), (some (61, false)), false⟩,
    ⟨(some 67), .pick (.tmp 61) (.const (.bool true)) (.tmp 66), none, false⟩]
def ac88_G4 : List AOper :=
  [⟨(some 75), .iaddrA 3 1 false (.tmp 3) (.const (.int .i64 0)), (some (74, true)), false⟩,
    ⟨(some 76), .load 1 false (.tmp 75), (some (74, true)), false⟩,
    ⟨(some 77), .iaddrA 3 1 false (.tmp 3) (.const (.int .i64 1)), (some (74, true)), false⟩,
    ⟨(some 78), .load 1 false (.tmp 77), (some (74, true)), false⟩,
    ⟨(some 79), .bin .neq 3 (.tmp 76) (.tmp 78), (some (74, true)), false⟩,
    ⟨(some 80), .pick (.tmp 74) (.tmp 79) (.const (.bool false)), none, false⟩]
def ac88_G5 : List AOper :=
  [⟨(some 85), .faddr 0 1 false (.tmp 2), (some (84, false)), false⟩,
    ⟨(some 86), .load 1 false (.tmp 85), (some (84, false)), false⟩,
    ⟨(some 87), .bin .eql 3 (.tmp 86) (.const (.int .i64 16)), (some (84, false)), false⟩,
    ⟨(some 88), .pick (.tmp 84) (.const (.bool true)) (.tmp 87), none, false⟩]
/-- patchbay/expr.combine -/
def ac88 : AC :=
  .seq (.region false [⟨(some 2), .box false 106 (.tmp 0), none, false⟩,
        ⟨(some 3), .box false 142 (.tmp 1), none, false⟩,
        ⟨(some 4), .move (.const (.int .i64 0)), none, false⟩,
        ⟨(some 5), .move (.const (.int .i64 0)), none, false⟩])
    (.seq (.seq (.region false [⟨(some 8), .faddr 0 1 false (.tmp 2), none, false⟩,
            ⟨(some 9), .load 1 false (.tmp 8), none, false⟩])
        (.block 0 (.seq (.seq (.region false [⟨(some 11), .bin .eql 3 (.tmp 9) (.const (.int .i64 6)), none, false⟩,
                  ⟨(some 10), .move (.tmp 11), none, false⟩])
              (.cond (.tmp 10)
                (.skip)
                (.region false [⟨(some 12), .bin .eql 3 (.tmp 9) (.const (.int .i64 7)), none, false⟩,
                    ⟨(some 10), .move (.tmp 12), none, false⟩])))
            (.cond (.tmp 10)
              (.seq (.region false (⟨(some 13), .faddr 1 1 false (.tmp 2), none, false⟩ :: ⟨(some 14), .load 1 false (.tmp 13), none, false⟩ :: ⟨(some 15), .bin .lss 3 (.tmp 14) (.const (.int .i64 0)), none, false⟩ :: ⟨(some 16), .move (.tmp 15), none, false⟩ :: (ac88_G1 ++ [])))
                (.cond (.tmp 20)
                  (.seq (.region false [⟨(some 4), .move (.const (.int .i64 0)), none, false⟩,
                        ⟨(some 5), .move (.const (.int .i64 9)), none, false⟩])
                    (.ret))
                  (.skip)))
              (.seq (.region false [⟨(some 22), .bin .eql 3 (.tmp 9) (.const (.int .i64 8)), none, false⟩,
                    ⟨(some 21), .move (.tmp 22), none, false⟩])
                (.cond (.tmp 21)
                  (.seq (.seq (.region false [⟨(some 23), .faddr 1 1 false (.tmp 2), none, false⟩,
                          ⟨(some 24), .load 1 false (.tmp 23), none, false⟩,
                          ⟨(some 25), .bin .lss 3 (.tmp 24) (.const (.int .i64 0)), none, false⟩])
                      (.cond (.tmp 25)
                        (.seq (.region false [⟨(some 4), .move (.const (.int .i64 0)), none, false⟩,
                              ⟨(some 5), .move (.const (.int .i64 9)), none, false⟩])
                          (.ret))
                        (.skip)))
                    (.seq (.seq (.region false [⟨(some 27), .faddr 2 1 false (.tmp 2), none, false⟩,
                            ⟨(some 28), .load 1 false (.tmp 27), none, false⟩,
                            ⟨(some 29), .call (.func 92) [(.tmp 28)], none, false⟩,
                            ⟨(some 26), .move (.tmp 29), none, false⟩,
                            ⟨(some 30), .extract (.tmp 26) 0, none, false⟩,
                            ⟨(some 31), .extract (.tmp 26) 1, none, false⟩,
                            ⟨(some 6), .move (.tmp 30), none, false⟩,
                            ⟨(some 7), .move (.tmp 31), none, false⟩])
                        (.seq (.region false (⟨(some 32), .move (.tmp 7), none, false⟩ :: ⟨(some 33), .bin .neq 35 (.tmp 32) (.const (.int .i64 0)), none, false⟩ :: ⟨(some 34), .move (.tmp 33), none, false⟩ :: (ac88_G2 ++ [])))
                          (.cond (.tmp 43)
                            (.seq (.region false [⟨(some 4), .move (.const (.int .i64 0)), none, false⟩,
                                  ⟨(some 5), .move (.const (.int .i64 10)), none, false⟩])
                              (.ret))
                            (.skip))))
                      (.seq (.region false [⟨(some 44), .faddr 2 1 false (.tmp 2), none, false⟩,
                            ⟨(some 45), .load 1 false (.tmp 44), none, false⟩,
                            ⟨(some 4), .move (.tmp 45), none, false⟩,
                            ⟨(some 5), .move (.const (.int .i64 0)), none, false⟩])
                        (.ret))))
                  (.seq (.region false [⟨(some 47), .bin .eql 3 (.tmp 9) (.const (.int .i64 14)), none, false⟩,
                        ⟨(some 46), .move (.tmp 47), none, false⟩])
                    (.cond (.tmp 46)
                      (.seq (.region false [⟨(some 48), .iaddrA 3 1 false (.tmp 3) (.const (.int .i64 0)), none, false⟩,
                            ⟨(some 49), .load 1 false (.tmp 48), none, false⟩,
                            ⟨(some 50), .iaddrA 3 1 false (.tmp 3) (.const (.int .i64 1)), none, false⟩,
                            ⟨(some 51), .load 1 false (.tmp 50), none, false⟩,
                            ⟨(some 52), .bin .add 3 (.tmp 49) (.tmp 51), none, false⟩,
                            ⟨(some 53), .call (.func 92) [(.tmp 52)], none, false⟩,
                            ⟨(some 54), .extract (.tmp 53) 0, none, false⟩,
                            ⟨(some 55), .extract (.tmp 53) 1, none, false⟩,
                            ⟨(some 4), .move (.tmp 54), none, false⟩,
                            ⟨(some 5), .move (.tmp 55), none, false⟩])
                        (.ret))
                      (.seq (.region false [⟨(some 57), .bin .eql 3 (.tmp 9) (.const (.int .i64 17)), none, false⟩,
                            ⟨(some 56), .move (.tmp 57), none, false⟩])
                        (.cond (.tmp 56)
                          (.seq (.seq (.region false (⟨(some 58), .iaddrA 3 1 false (.tmp 3) (.const (.int .i64 0)), none, false⟩ :: ⟨(some 59), .load 1 false (.tmp 58), none, false⟩ :: ⟨(some 60), .bin .neq 3 (.tmp 59) (.const (.int .i64 1)), none, false⟩ :: ⟨(some 61), .move (.tmp 60), none, false⟩ :: (ac88_G3 ++ [])))
                              (.cond (.tmp 67)
                                (.seq (.region false [⟨(some 4), .move (.const (.int .i64 0)), none, false⟩,
                                      ⟨(some 5), .move (.const (.int .i64 10)), none, false⟩])
                                  (.ret))
                                (.skip)))
                            (.seq (.region false [⟨(some 68), .iaddrA 3 1 false (.tmp 3) (.const (.int .i64 1)), none, false⟩,
                                  ⟨(some 69), .load 1 false (.tmp 68), none, false⟩,
                                  ⟨(some 4), .move (.tmp 69), none, false⟩,
                                  ⟨(some 5), .move (.const (.int .i64 0)), none, false⟩])
                              (.ret)))
                          (.skip)))))))))))
      (.seq (.seq (.region false (⟨(some 70), .faddr 0 1 false (.tmp 2), none, false⟩ :: ⟨(some 71), .load 1 false (.tmp 70), none, false⟩ :: ⟨(some 72), .call (.func 86) [(.tmp 71)], none, false⟩ :: ⟨(some 73), .bin .eql 3 (.tmp 72) (.const (.int .i64 2)), none, false⟩ :: ⟨(some 74), .move (.tmp 73), none, false⟩ :: (ac88_G4 ++ [])))
          (.cond (.tmp 80)
            (.seq (.region false [⟨(some 4), .move (.const (.int .i64 0)), none, false⟩,
                  ⟨(some 5), .move (.const (.int .i64 10)), none, false⟩])
              (.ret))
            (.skip)))
        (.seq (.seq (.region false (⟨(some 81), .faddr 0 1 false (.tmp 2), none, false⟩ :: ⟨(some 82), .load 1 false (.tmp 81), none, false⟩ :: ⟨(some 83), .bin .eql 3 (.tmp 82) (.const (.int .i64 15)), none, false⟩ :: ⟨(some 84), .move (.tmp 83), none, false⟩ :: (ac88_G5 ++ [])))
            (.cond (.tmp 88)
              (.seq (.region false [⟨(some 4), .move (.const (.int .i64 1)), none, false⟩,
                    ⟨(some 5), .move (.const (.int .i64 0)), none, false⟩])
                (.ret))
              (.skip)))
          (.seq (.region false [⟨(some 89), .iaddrA 3 1 false (.tmp 3) (.const (.int .i64 0)), none, false⟩,
                ⟨(some 90), .load 1 false (.tmp 89), none, false⟩,
                ⟨(some 4), .move (.tmp 90), none, false⟩,
                ⟨(some 5), .move (.const (.int .i64 0)), none, false⟩])
            (.ret)))))
theorem text88 : FnText Try.prog 88 [] 91 2 ac88 [(4, none), (5, none)] :=
  ⟨Try.call88, follows, Try.f88, _, Try.func88, rfl, rfl, by decide, by kernel_rfl, by kernel_rfl⟩

def ac51_G1 : List AOper :=
  [⟨(some 7), .faddr 0 1 false (.tmp 1), (some (6, false)), false⟩,
    ⟨(some 8), .load 1 false (.tmp 7), (some (6, false)), false⟩,
    ⟨(some 9), .bin .eql 3 (.tmp 8) (.const (.int .i64 3)), (some (6, false)), false⟩,
    ⟨(some 10), .pick (.tmp 6) (.const (.bool true)) (.tmp 9), none, false⟩]
/-- patchbay/control.applies -/
def ac51 : AC :=
  .seq (.region false [⟨(some 1), .box false 40 (.tmp 0), none, false⟩,
        ⟨(some 2), .move (.const (.bool false)), none, false⟩])
    (.seq (.region false (⟨(some 3), .faddr 0 1 false (.tmp 1), none, false⟩ :: ⟨(some 4), .load 1 false (.tmp 3), none, false⟩ :: ⟨(some 5), .bin .eql 3 (.tmp 4) (.const (.int .i64 1)), none, false⟩ :: ⟨(some 6), .move (.tmp 5), none, false⟩ :: (ac51_G1 ++ [⟨(some 2), .move (.tmp 10), none, false⟩])))
      (.ret))
theorem text51 : FnText Try.prog 51 [] 11 1 ac51 [(2, none)] :=
  ⟨Try.call51, follows, Try.f51, _, Try.func51, rfl, rfl, by decide, by kernel_rfl, by kernel_rfl⟩

def ac63_L1 : AC :=
  .seq (.region false [⟨(some 14), .bin .lss 3 (.tmp 13) (.tmp 12), none, false⟩])
    (.seq (.cond (.tmp 14)
        (.skip)
        (.exit 0))
      (.seq (.block 1 (.seq (.region false [⟨(some 15), .iaddr 5 (.tmp 11) (.tmp 13), none, false⟩,
                ⟨(some 16), .load 5 true (.tmp 15), none, false⟩,
                ⟨(some 7), .alloc true 40 (.agg [(.int .i64 0), (.int .i64 0), (.slice none 0 0), (.slice none 0 0), (.slice none 0 0)].toArray), none, false⟩,
                ⟨none, .store 5 (.tmp 7) (.tmp 16), none, false⟩])
            (.seq (.region true [⟨(some 17), .faddr 1 1 false (.tmp 7), none, false⟩,
                  ⟨(some 18), .load 1 false (.tmp 17), none, false⟩,
                  ⟨(some 19), .load 1 false (.tmp 5), none, false⟩,
                  ⟨(some 20), .call (.func 64) [(.tmp 19)], none, false⟩,
                  ⟨(some 21), .build [(.int .i64 0), (.slice none 0 0), (.slice none 0 0)] [(0, 1, (.tmp 18)), (2, 1, (.tmp 20))], none, false⟩,
                  ⟨(some 8), .alloc true 58 (.agg [(.int .i64 0), (.slice none 0 0), (.slice none 0 0)].toArray), none, false⟩,
                  ⟨none, .store 3 (.tmp 8) (.tmp 21), none, false⟩])
              (.seq (.seq (.region false [⟨(some 22), .faddr 0 1 false (.tmp 7), none, false⟩,
                      ⟨(some 23), .load 1 false (.tmp 22), none, false⟩,
                      ⟨(some 24), .bin .eql 3 (.tmp 23) (.const (.int .i64 2)), none, false⟩])
                  (.cond (.tmp 24)
                    (.seq (.region false [⟨(some 25), .faddr 0 1 false (.tmp 8), none, false⟩,
                          ⟨none, .store 1 (.tmp 25) (.const (.int .i64 (-1))), none, false⟩])
                      (.region false [⟨(some 26), .faddr 2 1 false (.tmp 7), none, false⟩,
                          ⟨(some 27), .load 1 false (.tmp 26), none, false⟩,
                          ⟨(some 28), .call (.func 65) [(.tmp 27)], none, false⟩,
                          ⟨(some 29), .faddr 1 1 false (.tmp 8), none, false⟩,
                          ⟨none, .store 1 (.tmp 29) (.tmp 28), none, false⟩]))
                    (.skip)))
                (.seq (.region false [⟨(some 30), .load 1 false (.tmp 2), none, false⟩,
                      ⟨(some 31), .bi .len [48].toArray 3 [(.tmp 30)], none, false⟩,
                      ⟨(some 9), .alloc true 3 (.int .i64 0), none, false⟩,
                      ⟨none, .store 1 (.tmp 9) (.tmp 31), none, false⟩])
                  (.seq (.region false [⟨(some 32), .load 1 false (.tmp 2), none, false⟩,
                        ⟨(some 33), .load 3 true (.tmp 8), none, false⟩,
                        ⟨(some 34), .bslice false 58 3 false [(.tmp 33)], none, false⟩,
                        ⟨(some 35), .append 48 58 3 56 (.tmp 32) (.tmp 34), none, false⟩,
                        ⟨none, .store 1 (.tmp 2) (.tmp 35), none, false⟩])
                    (.seq (.region false [⟨(some 36), .mkFunc (.func 66) [] [(.tmp 5), (.tmp 9)], none, false⟩,
                          ⟨(some 10), .move (.tmp 36), none, false⟩])
                      (.seq (.regionT [⟨(some 37), .load 1 false (.tmp 3), none, false⟩,
                            ⟨(some 38), .faddr 3 1 false (.tmp 7), none, false⟩,
                            ⟨(some 39), .load 1 false (.tmp 38), none, false⟩,
                            ⟨(some 40), .move (.tmp 10), none, false⟩,
                            ⟨(some 41), .call (.tmp 40) [(.const (.bool true))], none, false⟩] ⟨(some 42), .call (.tmp 37) [(.tmp 39), (.tmp 41)], none, false⟩)
                        (.regionT [⟨(some 43), .load 1 false (.tmp 3), none, false⟩,
                            ⟨(some 44), .faddr 4 1 false (.tmp 7), none, false⟩,
                            ⟨(some 45), .load 1 false (.tmp 44), none, false⟩,
                            ⟨(some 46), .move (.tmp 10), none, false⟩,
                            ⟨(some 47), .call (.tmp 46) [(.const (.bool false))], none, false⟩] ⟨(some 48), .call (.tmp 43) [(.tmp 45), (.tmp 47)], none, false⟩)))))))))
        (.region false [⟨(some 49), .bin .add 3 (.tmp 13) (.const (.int .i64 1)), none, false⟩,
            ⟨(some 13), .move (.tmp 49), none, false⟩])))
/-- patchbay/units.Build$1 -/
def ac63 : AC :=
  .seq (.region false [⟨(some 5), .box false 56 (.tmp 1), none, false⟩])
    (.seq (.region false [⟨(some 11), .move (.tmp 0), none, false⟩,
          ⟨(some 12), .bi .len [28].toArray 3 [(.tmp 11)], none, false⟩,
          ⟨(some 13), .move (.const (.int .i64 0)), none, false⟩])
      (.block 0 (.loop ac63_L1)))
theorem text63 : FnText Try.prog 63 [7, 8, 9] 50 4 ac63 [] :=
  ⟨Try.call63, follows, Try.f63, _, Try.func63, rfl, rfl, by decide, by kernel_rfl, by kernel_rfl⟩


/-- slices.Clone[[]patchbay/api.Guard,patchbay/api.Guard] -/
def ac64 : AC :=
  .seq (.region false [⟨(some 2), .move (.const (.slice none 0 0)), none, false⟩])
    (.seq (.seq (.region false [⟨(some 3), .move (.tmp 0), none, false⟩,
            ⟨(some 4), .bin .eql 56 (.tmp 3) (.const (.slice none 0 0)), none, false⟩])
        (.cond (.tmp 4)
          (.seq (.region false [⟨(some 2), .move (.const (.slice none 0 0)), none, false⟩])
            (.ret))
          (.skip)))
      (.seq (.region false [⟨(some 5), .bslice false 60 2 false [], none, false⟩,
            ⟨(some 6), .move (.tmp 0), none, false⟩,
            ⟨(some 7), .append 56 60 2 16 (.tmp 5) (.tmp 6), none, false⟩,
            ⟨(some 2), .move (.tmp 7), none, false⟩])
        (.ret)))
theorem text64 : FnText Try.prog 64 [] 8 1 ac64 [(2, none)] :=
  ⟨Try.call64, follows, Try.f64, _, Try.func64, rfl, rfl, by decide, by kernel_rfl, by kernel_rfl⟩


/-- slices.Clone[[]patchbay/api.ExprNode,patchbay/api.ExprNode] -/
def ac65 : AC :=
  .seq (.region false [⟨(some 2), .move (.const (.slice none 0 0)), none, false⟩])
    (.seq (.seq (.region false [⟨(some 3), .move (.tmp 0), none, false⟩,
            ⟨(some 4), .bin .eql 38 (.tmp 3) (.const (.slice none 0 0)), none, false⟩])
        (.cond (.tmp 4)
          (.seq (.region false [⟨(some 2), .move (.const (.slice none 0 0)), none, false⟩])
            (.ret))
          (.skip)))
      (.seq (.region false [⟨(some 5), .bslice false 106 3 false [], none, false⟩,
            ⟨(some 6), .move (.tmp 0), none, false⟩,
            ⟨(some 7), .append 38 106 3 24 (.tmp 5) (.tmp 6), none, false⟩,
            ⟨(some 2), .move (.tmp 7), none, false⟩])
        (.ret)))
theorem text65 : FnText Try.prog 65 [] 8 1 ac65 [(2, none)] :=
  ⟨Try.call65, follows, Try.f65, _, Try.func65, rfl, rfl, by decide, by kernel_rfl, by kernel_rfl⟩


/-- patchbay/units.Build$1$1 -/
def ac66 : AC :=
  .seq (.region false [⟨(some 4), .move (.const (.slice none 0 0)), none, false⟩])
    (.seq (.regionU [⟨(some 5), .load 1 false (.tmp 1), none, false⟩,
          ⟨(some 6), .call (.func 64) [(.tmp 5)], none, false⟩,
          ⟨(some 7), .load 1 false (.tmp 2), none, true⟩,
          ⟨(some 8), .move (.tmp 0), none, true⟩,
          ⟨(some 9), .build [(.int .i64 0), (.bool false)] [(0, 1, (.tmp 7)), (1, 1, (.tmp 8))], none, true⟩,
          ⟨(some 10), .bslice false 60 2 false [(.tmp 9)], none, true⟩,
          ⟨(some 11), .append 56 60 2 16 (.tmp 6) (.tmp 10), none, false⟩,
          ⟨(some 4), .move (.tmp 11), none, false⟩])
      (.ret))
theorem text66 : FnText Try.prog 66 [1000000] 12 3 ac66 [(4, none)] :=
  ⟨Try.call66, follows, Try.f66, _, Try.func66, rfl, rfl, by decide, by kernel_rfl, by kernel_rfl⟩

end Go.Proofs.Ytkgnjpoafilicaa
