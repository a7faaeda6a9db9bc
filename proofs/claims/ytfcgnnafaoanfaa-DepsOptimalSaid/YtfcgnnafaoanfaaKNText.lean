/-
  The text of each function of this seat, as the plain library tells it; each by the kernel's own reckoning from the program.
-/
import Derived.Test.YtfcgnnafaoanfaaPbWp
import Derived.Test.YtfcgnnafaoanfaaRows
set_option linter.unusedVariables false
set_option maxRecDepth 100000
namespace Go.Proofs.Ytfcgnnafaoanfaa.N
open Go Go.Pb
theorem follows : Try.prog.follows .mixedOrders = true := by kernel_rfl
def ac6_L1 : AC :=
  .seq (.seq (.region false [⟨(some 7), .move (.tmp 3), none, false⟩,
          ⟨(some 8), .move (.tmp 0), none, false⟩,
          ⟨(some 9), .bi .len [22].toArray 3 [(.tmp 8)], none, false⟩,
          ⟨(some 10), .bin .lss 3 (.tmp 7) (.tmp 9), none, false⟩])
      (.cond (.tmp 10)
        (.skip)
        (.exit 0)))
    (.seq (.block 1 (.seq (.region false [⟨(some 13), .move (.tmp 0), none, false⟩,
              ⟨(some 14), .move (.tmp 3), none, false⟩,
              ⟨(some 15), .iaddr 1 (.tmp 13) (.tmp 14), none, false⟩,
              ⟨(some 16), .load 1 false (.tmp 15), none, false⟩,
              ⟨(some 17), .bi .len [23].toArray 3 [(.tmp 16)], none, false⟩,
              ⟨(some 18), .bin .gtr 3 (.tmp 17) (.const (.int .i64 20)), none, false⟩])
          (.cond (.tmp 18)
            (.seq (.region false [⟨(some 2), .move (.const (.bool false)), none, false⟩])
              (.ret))
            (.skip))))
      (.region false [⟨(some 11), .move (.tmp 3), none, false⟩,
          ⟨(some 12), .bin .add 3 (.tmp 11) (.const (.int .i64 1)), none, false⟩,
          ⟨(some 3), .move (.tmp 12), none, false⟩]))
/-- patchbay/patchbaylaw33.smallMatrix -/
def ac6 : AC :=
  .seq (.region false [⟨(some 2), .move (.const (.bool false)), none, false⟩])
    (.seq (.seq (.region false [⟨(some 4), .move (.tmp 0), none, false⟩,
            ⟨(some 5), .bi .len [22].toArray 3 [(.tmp 4)], none, false⟩,
            ⟨(some 6), .bin .gtr 3 (.tmp 5) (.const (.int .i64 14)), none, false⟩])
        (.cond (.tmp 6)
          (.seq (.region false [⟨(some 2), .move (.const (.bool false)), none, false⟩])
            (.ret))
          (.skip)))
      (.seq (.seq (.region false [⟨(some 3), .move (.const (.int .i64 0)), none, false⟩])
          (.block 0 (.loop ac6_L1)))
        (.seq (.region false [⟨(some 2), .move (.const (.bool true)), none, false⟩])
          (.ret))))
theorem text6 : FnText Try.prog 6 [] 19 1 ac6 [(2, none)] :=
  ⟨Try.call6, follows, Try.f6, _, Try.func6, rfl, rfl, by decide, by kernel_rfl, by kernel_rfl⟩

def ac7_G1 : List AOper :=
  [⟨(some 7), .move (.tmp 1), (some (6, true)), false⟩,
    ⟨(some 8), .call (.func 9) [(.tmp 7)], (some (6, true)), false⟩,
    ⟨(some 9), .bslice false 3 1 false [(.const (.int .i64 0)), (.const (.int .i64 0)), (.const (.int .i64 1))], (some (6, true)), false⟩,
    ⟨(some 10), .call (.func 8) [(.tmp 8), (.tmp 9)], (some (6, true)), false⟩,
    ⟨(some 11), .pick (.tmp 6) (.tmp 10) (.const (.bool false)), none, false⟩]
def ac7_G2 : List AOper :=
  [⟨(some 13), .move (.tmp 1), (some (12, true)), false⟩,
    ⟨(some 14), .call (.func 13) [(.tmp 13)], (some (12, true)), false⟩,
    ⟨(some 15), .bslice false 3 1 false [(.const (.int .i64 0)), (.const (.int .i64 2))], (some (12, true)), false⟩,
    ⟨(some 16), .call (.func 8) [(.tmp 14), (.tmp 15)], (some (12, true)), false⟩,
    ⟨(some 17), .pick (.tmp 12) (.tmp 16) (.const (.bool false)), none, false⟩]
def ac7_G3 : List AOper :=
  [⟨(some 19), .move (.tmp 1), (some (18, true)), false⟩,
    ⟨(some 20), .bslice false 3 1 false [(.const (.int .i64 0)), (.const (.int .i64 0)), (.const (.int .i64 1))], (some (18, true)), false⟩,
    ⟨(some 21), .call (.func 11) [(.tmp 19), (.tmp 20)], (some (18, true)), false⟩,
    ⟨(some 22), .pick (.tmp 18) (.tmp 21) (.const (.bool false)), none, false⟩]
def ac7_G4 : List AOper :=
  [⟨(some 24), .move (.tmp 1), (some (23, true)), false⟩,
    ⟨(some 25), .bslice false 3 1 false [(.const (.int .i64 1)), (.const (.int .i64 0)), (.const (.int .i64 1))], (some (23, true)), false⟩,
    ⟨(some 26), .call (.func 11) [(.tmp 24), (.tmp 25)], (some (23, true)), false⟩,
    ⟨(some 27), .un .not (.tmp 26), (some (23, true)), false⟩,
    ⟨(some 28), .pick (.tmp 23) (.tmp 27) (.const (.bool false)), none, false⟩]
/-- patchbay/patchbaylaw33.works -/
def ac7 : AC :=
  .seq (.region false [⟨(some 0), .move (.const (.bool false)), none, false⟩])
    (.seq (.region false [⟨(some 2), .bslice false 3 1 false [(.const (.int .i64 0)), (.const (.int .i64 1)), (.const (.int .i64 0))], none, false⟩,
          ⟨(some 3), .bslice false 3 1 false [(.const (.int .i64 0)), (.const (.int .i64 0)), (.const (.int .i64 2))], none, false⟩,
          ⟨(some 4), .bslice false 3 1 false [(.const (.int .i64 0)), (.const (.int .i64 0)), (.const (.int .i64 0))], none, false⟩,
          ⟨(some 5), .bslice false 23 1 false [(.tmp 2), (.tmp 3), (.tmp 4)], none, false⟩,
          ⟨(some 1), .move (.tmp 5), none, false⟩])
      (.seq (.region false (⟨(some 6), .move (.const (.bool true)), none, false⟩ :: (ac7_G1 ++ (⟨(some 12), .move (.tmp 11), none, false⟩ :: (ac7_G2 ++ (⟨(some 18), .move (.tmp 17), none, false⟩ :: (ac7_G3 ++ (⟨(some 23), .move (.tmp 22), none, false⟩ :: (ac7_G4 ++ [⟨(some 0), .move (.tmp 28), none, false⟩])))))))))
        (.ret)))
theorem text7 : FnText Try.prog 7 [] 29 0 ac7 [(0, none)] :=
  ⟨Try.call7, follows, Try.f7, _, Try.func7, rfl, rfl, by decide, by kernel_rfl, by kernel_rfl⟩

def ac9_L2 : AC :=
  .seq (.region false [⟨(some 16), .bin .lss 3 (.tmp 15) (.tmp 14), none, false⟩])
    (.seq (.cond (.tmp 16)
        (.skip)
        (.exit 2))
      (.seq (.block 3 (.seq (.region false [⟨(some 17), .move (.tmp 15), none, false⟩,
                ⟨(some 5), .move (.tmp 17), none, false⟩])
            (.seq (.region false [⟨(some 18), .move (.tmp 0), none, false⟩,
                  ⟨(some 19), .move (.tmp 5), none, false⟩,
                  ⟨(some 20), .move (.tmp 4), none, false⟩,
                  ⟨(some 21), .call (.func 15) [(.tmp 18), (.tmp 19), (.tmp 20)], none, false⟩])
              (.block 4 (.seq (.region false [⟨(some 23), .bin .eql 3 (.tmp 21) (.const (.int .i64 2)), none, false⟩,
                      ⟨(some 22), .move (.tmp 23), none, false⟩])
                  (.cond (.tmp 22)
                    (.region true [⟨(some 24), .move (.tmp 3), none, false⟩,
                        ⟨(some 25), .move (.tmp 4), none, false⟩,
                        ⟨(some 26), .move (.tmp 3), none, false⟩,
                        ⟨(some 27), .move (.tmp 4), none, false⟩,
                        ⟨(some 28), .iaddr 1 (.tmp 26) (.tmp 27), none, false⟩,
                        ⟨(some 29), .load 1 false (.tmp 28), none, false⟩,
                        ⟨(some 30), .move (.tmp 3), none, false⟩,
                        ⟨(some 31), .move (.tmp 5), none, false⟩,
                        ⟨(some 32), .iaddr 1 (.tmp 30) (.tmp 31), none, false⟩,
                        ⟨(some 33), .load 1 false (.tmp 32), none, false⟩,
                        ⟨(some 34), .bin .add 3 (.tmp 33) (.const (.int .i64 1)), none, false⟩,
                        ⟨(some 35), .bi .max [3, 3].toArray 3 [(.tmp 29), (.tmp 34)], none, false⟩,
                        ⟨(some 36), .iaddr 1 (.tmp 24) (.tmp 25), none, false⟩,
                        ⟨none, .store 1 (.tmp 36) (.tmp 35), none, false⟩])
                    (.seq (.region false [⟨(some 38), .bin .eql 3 (.tmp 21) (.const (.int .i64 1)), none, false⟩,
                          ⟨(some 37), .move (.tmp 38), none, false⟩])
                      (.cond (.tmp 37)
                        (.region true [⟨(some 39), .move (.tmp 3), none, false⟩,
                            ⟨(some 40), .move (.tmp 4), none, false⟩,
                            ⟨(some 41), .move (.tmp 3), none, false⟩,
                            ⟨(some 42), .move (.tmp 4), none, false⟩,
                            ⟨(some 43), .iaddr 1 (.tmp 41) (.tmp 42), none, false⟩,
                            ⟨(some 44), .load 1 false (.tmp 43), none, false⟩,
                            ⟨(some 45), .move (.tmp 3), none, false⟩,
                            ⟨(some 46), .move (.tmp 5), none, false⟩,
                            ⟨(some 47), .iaddr 1 (.tmp 45) (.tmp 46), none, false⟩,
                            ⟨(some 48), .load 1 false (.tmp 47), none, false⟩,
                            ⟨(some 49), .bi .max [3, 3].toArray 3 [(.tmp 44), (.tmp 48)], none, false⟩,
                            ⟨(some 50), .iaddr 1 (.tmp 39) (.tmp 40), none, false⟩,
                            ⟨none, .store 1 (.tmp 50) (.tmp 49), none, false⟩])
                        (.skip)))))))))
        (.region false [⟨(some 51), .bin .add 3 (.tmp 15) (.const (.int .i64 1)), none, false⟩,
            ⟨(some 15), .move (.tmp 51), none, false⟩])))
def ac9_L1 : AC :=
  .seq (.region false [⟨(some 12), .bin .lss 3 (.tmp 11) (.tmp 10), none, false⟩])
    (.seq (.cond (.tmp 12)
        (.skip)
        (.exit 0))
      (.seq (.block 1 (.seq (.region false [⟨(some 13), .move (.tmp 11), none, false⟩,
                ⟨(some 4), .move (.tmp 13), none, false⟩])
            (.seq (.region false [⟨(some 14), .move (.tmp 4), none, false⟩,
                  ⟨(some 15), .move (.const (.int .i64 0)), none, false⟩])
              (.block 2 (.loop ac9_L2)))))
        (.region false [⟨(some 52), .bin .add 3 (.tmp 11) (.const (.int .i64 1)), none, false⟩,
            ⟨(some 11), .move (.tmp 52), none, false⟩])))
/-- patchbay/deps.EarliestStages -/
def ac9 : AC :=
  .seq (.region false [⟨(some 2), .move (.const (.slice none 0 0)), none, false⟩])
    (.seq (.region false [⟨(some 6), .move (.tmp 0), none, false⟩,
          ⟨(some 7), .bi .len [22].toArray 3 [(.tmp 6)], none, false⟩,
          ⟨(some 8), .mkSlice 3 1 8 (.int .i64 0) (.tmp 7) (.tmp 7), none, false⟩,
          ⟨(some 3), .move (.tmp 8), none, false⟩])
      (.seq (.seq (.region false [⟨(some 9), .move (.tmp 0), none, false⟩,
              ⟨(some 10), .bi .len [22].toArray 3 [(.tmp 9)], none, false⟩,
              ⟨(some 11), .move (.const (.int .i64 0)), none, false⟩])
          (.block 0 (.loop ac9_L1)))
        (.seq (.region false [⟨(some 53), .move (.tmp 3), none, false⟩,
              ⟨(some 2), .move (.tmp 53), none, false⟩])
          (.ret))))
theorem text9 : FnText Try.prog 9 [] 54 1 ac9 [(2, none)] :=
  ⟨Try.call9, follows, Try.f9, _, Try.func9, rfl, rfl, by decide, by kernel_rfl, by kernel_rfl⟩

def ac11_L2 : AC :=
  .seq (.region false [⟨(some 19), .bin .lss 3 (.tmp 18) (.tmp 17), none, false⟩])
    (.seq (.cond (.tmp 19)
        (.skip)
        (.exit 2))
      (.seq (.block 3 (.seq (.region false [⟨(some 20), .move (.tmp 18), none, false⟩,
                ⟨(some 6), .move (.tmp 20), none, false⟩])
            (.seq (.region false [⟨(some 21), .move (.tmp 0), none, false⟩,
                  ⟨(some 22), .move (.tmp 6), none, false⟩,
                  ⟨(some 23), .move (.tmp 5), none, false⟩,
                  ⟨(some 24), .call (.func 15) [(.tmp 21), (.tmp 22), (.tmp 23)], none, false⟩])
              (.block 4 (.seq (.region false [⟨(some 26), .bin .eql 3 (.tmp 24) (.const (.int .i64 2)), none, false⟩,
                      ⟨(some 25), .move (.tmp 26), none, false⟩])
                  (.cond (.tmp 25)
                    (.seq (.region true [⟨(some 27), .move (.tmp 1), none, false⟩,
                          ⟨(some 28), .move (.tmp 5), none, false⟩,
                          ⟨(some 29), .iaddr 1 (.tmp 27) (.tmp 28), none, false⟩,
                          ⟨(some 30), .load 1 false (.tmp 29), none, false⟩,
                          ⟨(some 31), .move (.tmp 1), none, false⟩,
                          ⟨(some 32), .move (.tmp 6), none, false⟩,
                          ⟨(some 33), .iaddr 1 (.tmp 31) (.tmp 32), none, false⟩,
                          ⟨(some 34), .load 1 false (.tmp 33), none, false⟩,
                          ⟨(some 35), .bin .leq 3 (.tmp 30) (.tmp 34), none, false⟩])
                      (.cond (.tmp 35)
                        (.seq (.region false [⟨(some 4), .move (.const (.bool false)), none, false⟩])
                          (.ret))
                        (.skip)))
                    (.seq (.region false [⟨(some 37), .bin .eql 3 (.tmp 24) (.const (.int .i64 1)), none, false⟩,
                          ⟨(some 36), .move (.tmp 37), none, false⟩])
                      (.cond (.tmp 36)
                        (.seq (.region true [⟨(some 38), .move (.tmp 1), none, false⟩,
                              ⟨(some 39), .move (.tmp 5), none, false⟩,
                              ⟨(some 40), .iaddr 1 (.tmp 38) (.tmp 39), none, false⟩,
                              ⟨(some 41), .load 1 false (.tmp 40), none, false⟩,
                              ⟨(some 42), .move (.tmp 1), none, false⟩,
                              ⟨(some 43), .move (.tmp 6), none, false⟩,
                              ⟨(some 44), .iaddr 1 (.tmp 42) (.tmp 43), none, false⟩,
                              ⟨(some 45), .load 1 false (.tmp 44), none, false⟩,
                              ⟨(some 46), .bin .lss 3 (.tmp 41) (.tmp 45), none, false⟩])
                          (.cond (.tmp 46)
                            (.seq (.region false [⟨(some 4), .move (.const (.bool false)), none, false⟩])
                              (.ret))
                            (.skip)))
                        (.skip)))))))))
        (.region false [⟨(some 47), .bin .add 3 (.tmp 18) (.const (.int .i64 1)), none, false⟩,
            ⟨(some 18), .move (.tmp 47), none, false⟩])))
def ac11_L1 : AC :=
  .seq (.region false [⟨(some 15), .bin .lss 3 (.tmp 14) (.tmp 13), none, false⟩])
    (.seq (.cond (.tmp 15)
        (.skip)
        (.exit 0))
      (.seq (.block 1 (.seq (.region false [⟨(some 16), .move (.tmp 14), none, false⟩,
                ⟨(some 5), .move (.tmp 16), none, false⟩])
            (.seq (.region false [⟨(some 17), .move (.tmp 5), none, false⟩,
                  ⟨(some 18), .move (.const (.int .i64 0)), none, false⟩])
              (.block 2 (.loop ac11_L2)))))
        (.region false [⟨(some 48), .bin .add 3 (.tmp 14) (.const (.int .i64 1)), none, false⟩,
            ⟨(some 14), .move (.tmp 48), none, false⟩])))
/-- patchbay/deps.Satisfied -/
def ac11 : AC :=
  .seq (.region false [⟨(some 4), .move (.const (.bool false)), none, false⟩])
    (.seq (.seq (.region false [⟨(some 7), .move (.tmp 1), none, false⟩,
            ⟨(some 8), .bi .len [23].toArray 3 [(.tmp 7)], none, false⟩,
            ⟨(some 9), .move (.tmp 0), none, false⟩,
            ⟨(some 10), .bi .len [22].toArray 3 [(.tmp 9)], none, false⟩,
            ⟨(some 11), .bin .neq 3 (.tmp 8) (.tmp 10), none, false⟩])
        (.cond (.tmp 11)
          (.seq (.region false [⟨(some 4), .move (.const (.bool false)), none, false⟩])
            (.ret))
          (.skip)))
      (.seq (.seq (.region false [⟨(some 12), .move (.tmp 0), none, false⟩,
              ⟨(some 13), .bi .len [22].toArray 3 [(.tmp 12)], none, false⟩,
              ⟨(some 14), .move (.const (.int .i64 0)), none, false⟩])
          (.block 0 (.loop ac11_L1)))
        (.seq (.region false [⟨(some 4), .move (.const (.bool true)), none, false⟩])
          (.ret))))
theorem text11 : FnText Try.prog 11 [] 49 2 ac11 [(4, none)] :=
  ⟨Try.call11, follows, Try.f11, _, Try.func11, rfl, rfl, by decide, by kernel_rfl, by kernel_rfl⟩

def ac13_L2 : AC :=
  .seq (.region false [⟨(some 29), .bin .lss 3 (.tmp 28) (.tmp 27), none, false⟩])
    (.seq (.cond (.tmp 29)
        (.skip)
        (.exit 2))
      (.seq (.block 3 (.seq (.region false [⟨(some 30), .move (.tmp 28), none, false⟩,
                ⟨(some 8), .move (.tmp 30), none, false⟩])
            (.seq (.region false [⟨(some 31), .move (.tmp 4), none, false⟩,
                  ⟨(some 32), .move (.tmp 7), none, false⟩,
                  ⟨(some 33), .iaddr 1 (.tmp 31) (.tmp 32), none, false⟩,
                  ⟨(some 34), .load 1 false (.tmp 33), none, false⟩,
                  ⟨(some 35), .move (.tmp 8), none, false⟩,
                  ⟨(some 36), .iaddr 1 (.tmp 34) (.tmp 35), none, false⟩,
                  ⟨(some 37), .load 1 false (.tmp 36), none, false⟩])
              (.cond (.tmp 37)
                (.region true [⟨(some 38), .move (.tmp 5), none, false⟩,
                    ⟨(some 39), .move (.tmp 7), none, false⟩,
                    ⟨(some 40), .move (.tmp 5), none, false⟩,
                    ⟨(some 41), .move (.tmp 7), none, false⟩,
                    ⟨(some 42), .iaddr 1 (.tmp 40) (.tmp 41), none, false⟩,
                    ⟨(some 43), .load 1 false (.tmp 42), none, false⟩,
                    ⟨(some 44), .move (.tmp 5), none, false⟩,
                    ⟨(some 45), .move (.tmp 8), none, false⟩,
                    ⟨(some 46), .iaddr 1 (.tmp 44) (.tmp 45), none, false⟩,
                    ⟨(some 47), .load 1 false (.tmp 46), none, false⟩,
                    ⟨(some 48), .bin .add 3 (.tmp 47) (.const (.int .i64 1)), none, false⟩,
                    ⟨(some 49), .bi .max [3, 3].toArray 3 [(.tmp 43), (.tmp 48)], none, false⟩,
                    ⟨(some 50), .iaddr 1 (.tmp 38) (.tmp 39), none, false⟩,
                    ⟨none, .store 1 (.tmp 50) (.tmp 49), none, false⟩])
                (.skip)))))
        (.region false [⟨(some 51), .bin .add 3 (.tmp 28) (.const (.int .i64 1)), none, false⟩,
            ⟨(some 28), .move (.tmp 51), none, false⟩])))
def ac13_G1 : List AOper :=
  [⟨(some 57), .move (.tmp 5), (some (56, false)), false⟩,
    ⟨(some 58), .move (.tmp 7), (some (56, false)), false⟩,
    ⟨(some 59), .iaddr 1 (.tmp 57) (.tmp 58), (some (56, false)), false⟩,
    ⟨(some 60), .load 1 false (.tmp 59), (some (56, false)), false⟩,
    ⟨(some 61), .move (.tmp 5), (some (56, false)), false⟩,
    ⟨(some 62), .move (.tmp 6), (some (56, false)), false⟩,
    ⟨(some 63), .iaddr 1 (.tmp 61) (.tmp 62), (some (56, false)), false⟩,
    ⟨(some 64), .load 1 false (.tmp 63), (some (56, false)), false⟩,
    ⟨(some 65), .bin .geq 3 (.tmp 60) (.tmp 64), (some (56, false)), false⟩,
    ⟨(some 66), .pick (.tmp 56) (.const (.bool true)) (.tmp 65), none, false⟩]
def ac13_L1 : AC :=
  .seq (.seq (.region false [⟨(some 20), .move (.tmp 7), none, false⟩,
          ⟨(some 21), .bin .geq 3 (.tmp 20) (.const (.int .i64 0)), none, false⟩])
      (.cond (.tmp 21)
        (.skip)
        (.exit 0)))
    (.seq (.block 1 (.seq (.region false [⟨(some 24), .move (.tmp 5), none, false⟩,
              ⟨(some 25), .move (.tmp 7), none, false⟩,
              ⟨(some 26), .iaddr 1 (.tmp 24) (.tmp 25), none, false⟩,
              ⟨none, .store 1 (.tmp 26) (.const (.int .i64 1)), none, false⟩])
          (.seq (.seq (.region false [⟨(some 27), .move (.tmp 3), none, false⟩,
                  ⟨(some 28), .move (.const (.int .i64 0)), none, false⟩])
              (.block 2 (.loop ac13_L2)))
            (.seq (.region true (⟨(some 52), .move (.tmp 7), none, false⟩ :: ⟨(some 53), .move (.tmp 3), none, false⟩ :: ⟨(some 54), .bin .sub 3 (.tmp 53) (.const (.int .i64 1)), none, false⟩ :: ⟨(some 55), .bin .eql 3 (.tmp 52) (.tmp 54), none, false⟩ :: ⟨(some 56), .move (.tmp 55), none, false⟩ :: (ac13_G1 ++ [])))
              (.cond (.tmp 66)
                (.region false [⟨(some 67), .move (.tmp 7), none, false⟩,
                    ⟨(some 6), .move (.tmp 67), none, false⟩])
                (.skip))))))
      (.region false [⟨(some 22), .move (.tmp 7), none, false⟩,
          ⟨(some 23), .bin .sub 3 (.tmp 22) (.const (.int .i64 1)), none, false⟩,
          ⟨(some 7), .move (.tmp 23), none, false⟩]))
def ac13_G2 : List AOper :=
  [⟨(some 90), .move (.tmp 5), (some (89, true)), false⟩,
    ⟨(some 91), .move (.tmp 11), (some (89, true)), false⟩,
    ⟨(some 92), .iaddr 1 (.tmp 90) (.tmp 91), (some (89, true)), false⟩,
    ⟨(some 93), .load 1 false (.tmp 92), (some (89, true)), false⟩,
    ⟨(some 94), .move (.tmp 5), (some (89, true)), false⟩,
    ⟨(some 95), .move (.tmp 10), (some (89, true)), false⟩,
    ⟨(some 96), .iaddr 1 (.tmp 94) (.tmp 95), (some (89, true)), false⟩,
    ⟨(some 97), .load 1 false (.tmp 96), (some (89, true)), false⟩,
    ⟨(some 98), .bin .sub 3 (.tmp 97) (.const (.int .i64 1)), (some (89, true)), false⟩,
    ⟨(some 99), .bin .eql 3 (.tmp 93) (.tmp 98), (some (89, true)), false⟩,
    ⟨(some 100), .pick (.tmp 89) (.tmp 99) (.const (.bool false)), none, false⟩]
def ac13_L4 : AC :=
  .seq (.region false [⟨(some 80), .bin .lss 3 (.tmp 79) (.tmp 78), none, false⟩])
    (.seq (.cond (.tmp 80)
        (.skip)
        (.exit 6))
      (.seq (.block 7 (.seq (.region false [⟨(some 81), .move (.tmp 79), none, false⟩,
                ⟨(some 11), .move (.tmp 81), none, false⟩])
            (.seq (.region true (⟨(some 82), .move (.tmp 4), none, false⟩ :: ⟨(some 83), .move (.tmp 10), none, false⟩ :: ⟨(some 84), .iaddr 1 (.tmp 82) (.tmp 83), none, false⟩ :: ⟨(some 85), .load 1 false (.tmp 84), none, false⟩ :: ⟨(some 86), .move (.tmp 11), none, false⟩ :: ⟨(some 87), .iaddr 1 (.tmp 85) (.tmp 86), none, false⟩ :: ⟨(some 88), .load 1 false (.tmp 87), none, false⟩ :: ⟨(some 89), .move (.tmp 88), none, false⟩ :: (ac13_G2 ++ [])))
              (.cond (.tmp 100)
                (.seq (.region false [⟨(some 101), .move (.tmp 9), none, false⟩,
                      ⟨(some 102), .move (.tmp 11), none, false⟩,
                      ⟨(some 103), .bslice false 3 1 false [(.tmp 102)], none, false⟩,
                      ⟨(some 104), .append 23 3 1 8 (.tmp 101) (.tmp 103), none, false⟩,
                      ⟨(some 9), .move (.tmp 104), none, false⟩])
                  (.seq (.region false [⟨(some 105), .move (.tmp 11), none, false⟩,
                        ⟨(some 10), .move (.tmp 105), none, false⟩])
                    (.exit 5)))
                (.skip)))))
        (.region false [⟨(some 106), .bin .add 3 (.tmp 79) (.const (.int .i64 1)), none, false⟩,
            ⟨(some 79), .move (.tmp 106), none, false⟩])))
def ac13_L3 : AC :=
  .seq (.seq (.region false [⟨(some 73), .move (.tmp 5), none, false⟩,
          ⟨(some 74), .move (.tmp 10), none, false⟩,
          ⟨(some 75), .iaddr 1 (.tmp 73) (.tmp 74), none, false⟩,
          ⟨(some 76), .load 1 false (.tmp 75), none, false⟩,
          ⟨(some 77), .bin .gtr 3 (.tmp 76) (.const (.int .i64 1)), none, false⟩])
      (.cond (.tmp 77)
        (.skip)
        (.exit 4)))
    (.block 5 (.seq (.region false [⟨(some 78), .move (.tmp 3), none, false⟩,
            ⟨(some 79), .move (.const (.int .i64 0)), none, false⟩])
        (.block 6 (.loop ac13_L4))))
/-- patchbay/deps.CriticalPath -/
def ac13 : AC :=
  .seq (.region false [⟨(some 2), .move (.const (.slice none 0 0)), none, false⟩])
    (.scope (.seq (.region false [⟨(some 12), .move (.tmp 0), none, false⟩,
            ⟨(some 13), .bi .len [22].toArray 3 [(.tmp 12)], none, false⟩,
            ⟨(some 3), .move (.tmp 13), none, false⟩])
        (.seq (.region false [⟨(some 14), .move (.tmp 0), none, false⟩,
              ⟨(some 15), .call (.func 17) [(.tmp 14)], none, false⟩,
              ⟨(some 4), .move (.tmp 15), none, false⟩])
          (.seq (.region false [⟨(some 16), .move (.tmp 3), none, false⟩,
                ⟨(some 17), .mkSlice 3 1 8 (.int .i64 0) (.tmp 16) (.tmp 16), none, false⟩,
                ⟨(some 5), .move (.tmp 17), none, false⟩])
            (.seq (.region false [⟨(some 6), .move (.const (.int .i64 0)), none, false⟩])
              (.seq (.seq (.region false [⟨(some 18), .move (.tmp 3), none, false⟩,
                      ⟨(some 19), .bin .sub 3 (.tmp 18) (.const (.int .i64 1)), none, false⟩,
                      ⟨(some 7), .move (.tmp 19), none, false⟩])
                  (.block 0 (.loop ac13_L1)))
                (.seq (.seq (.region false [⟨(some 68), .move (.tmp 3), none, false⟩,
                        ⟨(some 69), .bin .eql 3 (.tmp 68) (.const (.int .i64 0)), none, false⟩])
                    (.cond (.tmp 69)
                      (.seq (.region false [⟨(some 2), .move (.const (.slice none 0 0)), none, false⟩])
                        (.ret))
                      (.skip)))
                  (.seq (.region false [⟨(some 70), .move (.tmp 6), none, false⟩,
                        ⟨(some 71), .bslice false 3 1 false [(.tmp 70)], none, false⟩,
                        ⟨(some 9), .move (.tmp 71), none, false⟩])
                    (.seq (.skip)
                      (.seq (.seq (.region false [⟨(some 72), .move (.tmp 6), none, false⟩,
                              ⟨(some 10), .move (.tmp 72), none, false⟩])
                          (.block 4 (.loop ac13_L3)))
                        (.seq (.region false [⟨(some 107), .move (.tmp 9), none, false⟩,
                              ⟨(some 2), .move (.tmp 107), none, false⟩])
                          (.ret))))))))))))
theorem text13 : FnText Try.prog 13 [] 108 1 ac13 [(2, none)] :=
  ⟨Try.call13, follows, Try.f13, _, Try.func13, rfl, rfl, by decide, by kernel_rfl, by kernel_rfl⟩

def ac5_G1 : List AOper :=
  [⟨(some 16), .move (.tmp 1), (some (15, false)), false⟩,
    ⟨(some 17), .bi .len [23].toArray 3 [(.tmp 16)], (some (15, false)), false⟩,
    ⟨(some 18), .bin .gtr 3 (.tmp 17) (.const (.int .i64 20)), (some (15, false)), false⟩,
    ⟨(some 19), .pick (.tmp 15) (.const (.bool true)) (.tmp 18), none, false⟩]
def ac5_G2 : List AOper :=
  [⟨(some 29), .move (.tmp 0), (some (28, false)), false⟩,
    ⟨(some 30), .move (.tmp 5), (some (28, false)), false⟩,
    ⟨(some 31), .call (.func 11) [(.tmp 29), (.tmp 30)], (some (28, false)), false⟩,
    ⟨(some 32), .un .not (.tmp 31), (some (28, false)), false⟩,
    ⟨(some 33), .pick (.tmp 28) (.const (.bool true)) (.tmp 32), none, false⟩]
def ac5_L1 : AC :=
  .seq (.seq (.region false [⟨(some 34), .move (.tmp 7), none, false⟩,
          ⟨(some 35), .move (.tmp 5), none, false⟩,
          ⟨(some 36), .bi .len [23].toArray 3 [(.tmp 35)], none, false⟩,
          ⟨(some 37), .bin .lss 3 (.tmp 34) (.tmp 36), none, false⟩])
      (.cond (.tmp 37)
        (.skip)
        (.exit 0)))
    (.seq (.block 1 (.seq (.region false [⟨(some 40), .move (.tmp 6), none, false⟩,
              ⟨(some 41), .move (.tmp 5), none, false⟩,
              ⟨(some 42), .move (.tmp 7), none, false⟩,
              ⟨(some 43), .iaddr 1 (.tmp 41) (.tmp 42), none, false⟩,
              ⟨(some 44), .load 1 false (.tmp 43), none, false⟩,
              ⟨(some 45), .bi .max [3, 3].toArray 3 [(.tmp 40), (.tmp 44)], none, false⟩,
              ⟨(some 6), .move (.tmp 45), none, false⟩])
          (.seq (.region false [⟨(some 46), .move (.tmp 5), none, false⟩,
                ⟨(some 47), .move (.tmp 7), none, false⟩,
                ⟨(some 48), .iaddr 1 (.tmp 46) (.tmp 47), none, false⟩,
                ⟨(some 49), .load 1 false (.tmp 48), none, false⟩,
                ⟨(some 50), .bin .lss 3 (.tmp 49) (.const (.int .i64 0)), none, false⟩])
            (.cond (.tmp 50)
              (.seq (.region false [⟨(some 4), .move (.const (.bool false)), none, false⟩])
                (.ret))
              (.skip)))))
      (.region false [⟨(some 38), .move (.tmp 7), none, false⟩,
          ⟨(some 39), .bin .add 3 (.tmp 38) (.const (.int .i64 1)), none, false⟩,
          ⟨(some 7), .move (.tmp 39), none, false⟩]))
def ac5_G3 : List AOper :=
  [⟨(some 80), .move (.tmp 8), (some (79, false)), false⟩,
    ⟨(some 81), .move (.tmp 9), (some (79, false)), false⟩,
    ⟨(some 82), .iaddr 1 (.tmp 80) (.tmp 81), (some (79, false)), false⟩,
    ⟨(some 83), .load 1 false (.tmp 82), (some (79, false)), false⟩,
    ⟨(some 84), .move (.tmp 0), (some (79, false)), false⟩,
    ⟨(some 85), .bi .len [22].toArray 3 [(.tmp 84)], (some (79, false)), false⟩,
    ⟨(some 86), .bin .geq 3 (.tmp 83) (.tmp 85), (some (79, false)), false⟩,
    ⟨(some 87), .pick (.tmp 79) (.const (.bool true)) (.tmp 86), none, false⟩]
def ac5_G5 : List AOper :=
  [⟨(some 92), .move (.tmp 1), (some (91, true)), false⟩,
    ⟨(some 93), .move (.tmp 8), (some (91, true)), false⟩,
    ⟨(some 94), .move (.tmp 9), (some (91, true)), false⟩,
    ⟨(some 95), .iaddr 1 (.tmp 93) (.tmp 94), (some (91, true)), false⟩,
    ⟨(some 96), .load 1 false (.tmp 95), (some (91, true)), false⟩,
    ⟨(some 97), .iaddr 1 (.tmp 92) (.tmp 96), (some (91, true)), false⟩,
    ⟨(some 98), .load 1 false (.tmp 97), (some (91, true)), false⟩,
    ⟨(some 99), .move (.tmp 1), (some (91, true)), false⟩,
    ⟨(some 100), .move (.tmp 8), (some (91, true)), false⟩,
    ⟨(some 101), .move (.tmp 9), (some (91, true)), false⟩,
    ⟨(some 102), .bin .sub 3 (.tmp 101) (.const (.int .i64 1)), (some (91, true)), false⟩,
    ⟨(some 103), .iaddr 1 (.tmp 100) (.tmp 102), (some (91, true)), false⟩,
    ⟨(some 104), .load 1 false (.tmp 103), (some (91, true)), false⟩,
    ⟨(some 105), .iaddr 1 (.tmp 99) (.tmp 104), (some (91, true)), false⟩,
    ⟨(some 106), .load 1 false (.tmp 105), (some (91, true)), false⟩,
    ⟨(some 107), .bin .leq 3 (.tmp 98) (.tmp 106), (some (91, true)), false⟩,
    ⟨(some 108), .pick (.tmp 91) (.tmp 107) (.const (.bool false)), (some (88, false)), false⟩]
def ac5_G4 : List AOper :=
  (⟨(some 89), .move (.tmp 9), (some (88, false)), false⟩ :: ⟨(some 90), .bin .gtr 3 (.tmp 89) (.const (.int .i64 0)), (some (88, false)), false⟩ :: ⟨(some 91), .move (.tmp 90), (some (88, false)), false⟩ :: (ac5_G5 ++ [⟨(some 109), .pick (.tmp 88) (.const (.bool true)) (.tmp 108), none, false⟩]))
def ac5_L2 : AC :=
  .seq (.seq (.region false [⟨(some 68), .move (.tmp 9), none, false⟩,
          ⟨(some 69), .move (.tmp 8), none, false⟩,
          ⟨(some 70), .bi .len [23].toArray 3 [(.tmp 69)], none, false⟩,
          ⟨(some 71), .bin .lss 3 (.tmp 68) (.tmp 70), none, false⟩])
      (.cond (.tmp 71)
        (.skip)
        (.exit 2)))
    (.seq (.block 3 (.seq (.region true (⟨(some 74), .move (.tmp 8), none, false⟩ :: ⟨(some 75), .move (.tmp 9), none, false⟩ :: ⟨(some 76), .iaddr 1 (.tmp 74) (.tmp 75), none, false⟩ :: ⟨(some 77), .load 1 false (.tmp 76), none, false⟩ :: ⟨(some 78), .bin .lss 3 (.tmp 77) (.const (.int .i64 0)), none, false⟩ :: ⟨(some 79), .move (.tmp 78), none, false⟩ :: (ac5_G3 ++ (⟨(some 88), .move (.tmp 87), none, false⟩ :: (ac5_G4 ++ [])))))
          (.cond (.tmp 109)
            (.seq (.region false [⟨(some 4), .move (.const (.bool false)), none, false⟩])
              (.ret))
            (.skip))))
      (.region false [⟨(some 72), .move (.tmp 9), none, false⟩,
          ⟨(some 73), .bin .add 3 (.tmp 72) (.const (.int .i64 1)), none, false⟩,
          ⟨(some 9), .move (.tmp 73), none, false⟩]))
def ac5_L3 : AC :=
  .seq (.seq (.region false [⟨(some 110), .move (.tmp 10), none, false⟩,
          ⟨(some 111), .move (.tmp 1), none, false⟩,
          ⟨(some 112), .bi .len [23].toArray 3 [(.tmp 111)], none, false⟩,
          ⟨(some 113), .bin .lss 3 (.tmp 110) (.tmp 112), none, false⟩])
      (.cond (.tmp 113)
        (.skip)
        (.exit 4)))
    (.seq (.block 5 (.seq (.region false [⟨(some 116), .move (.tmp 1), none, false⟩,
              ⟨(some 117), .move (.tmp 10), none, false⟩,
              ⟨(some 118), .iaddr 1 (.tmp 116) (.tmp 117), none, false⟩,
              ⟨(some 119), .load 1 false (.tmp 118), none, false⟩,
              ⟨(some 120), .bin .lss 3 (.tmp 119) (.const (.int .i64 0)), none, false⟩])
          (.cond (.tmp 120)
            (.seq (.region false [⟨(some 121), .call (.func 7) [], none, false⟩,
                  ⟨(some 4), .move (.tmp 121), none, false⟩])
              (.ret))
            (.skip))))
      (.region false [⟨(some 114), .move (.tmp 10), none, false⟩,
          ⟨(some 115), .bin .add 3 (.tmp 114) (.const (.int .i64 1)), none, false⟩,
          ⟨(some 10), .move (.tmp 115), none, false⟩]))
def ac5_L4 : AC :=
  .seq (.seq (.region false [⟨(some 122), .move (.tmp 11), none, false⟩,
          ⟨(some 123), .move (.tmp 1), none, false⟩,
          ⟨(some 124), .bi .len [23].toArray 3 [(.tmp 123)], none, false⟩,
          ⟨(some 125), .bin .lss 3 (.tmp 122) (.tmp 124), none, false⟩])
      (.cond (.tmp 125)
        (.skip)
        (.exit 6)))
    (.seq (.block 7 (.seq (.region true [⟨(some 128), .move (.tmp 1), none, false⟩,
              ⟨(some 129), .move (.tmp 11), none, false⟩,
              ⟨(some 130), .iaddr 1 (.tmp 128) (.tmp 129), none, false⟩,
              ⟨(some 131), .load 1 false (.tmp 130), none, false⟩,
              ⟨(some 132), .move (.tmp 5), none, false⟩,
              ⟨(some 133), .move (.tmp 11), none, false⟩,
              ⟨(some 134), .iaddr 1 (.tmp 132) (.tmp 133), none, false⟩,
              ⟨(some 135), .load 1 false (.tmp 134), none, false⟩,
              ⟨(some 136), .bin .lss 3 (.tmp 131) (.tmp 135), none, false⟩])
          (.cond (.tmp 136)
            (.seq (.region false [⟨(some 4), .move (.const (.bool false)), none, false⟩])
              (.ret))
            (.skip))))
      (.region false [⟨(some 126), .move (.tmp 11), none, false⟩,
          ⟨(some 127), .bin .add 3 (.tmp 126) (.const (.int .i64 1)), none, false⟩,
          ⟨(some 11), .move (.tmp 127), none, false⟩]))
/-- patchbay/patchbaylaw33.DepsOptimal -/
def ac5 : AC :=
  .seq (.region false [⟨(some 4), .move (.const (.bool false)), none, false⟩])
    (.seq (.seq (.region false (⟨(some 12), .move (.tmp 0), none, false⟩ :: ⟨(some 13), .call (.func 6) [(.tmp 12)], none, false⟩ :: ⟨(some 14), .un .not (.tmp 13), none, false⟩ :: ⟨(some 15), .move (.tmp 14), none, false⟩ :: (ac5_G1 ++ [])))
        (.cond (.tmp 19)
          (.seq (.region false [⟨(some 20), .call (.func 7) [], none, false⟩,
                ⟨(some 4), .move (.tmp 20), none, false⟩])
            (.ret))
          (.skip)))
      (.seq (.region false [⟨(some 21), .move (.tmp 0), none, false⟩,
            ⟨(some 22), .call (.func 9) [(.tmp 21)], none, false⟩,
            ⟨(some 5), .move (.tmp 22), none, false⟩])
        (.seq (.seq (.region false (⟨(some 23), .move (.tmp 5), none, false⟩ :: ⟨(some 24), .bi .len [23].toArray 3 [(.tmp 23)], none, false⟩ :: ⟨(some 25), .move (.tmp 0), none, false⟩ :: ⟨(some 26), .bi .len [22].toArray 3 [(.tmp 25)], none, false⟩ :: ⟨(some 27), .bin .neq 3 (.tmp 24) (.tmp 26), none, false⟩ :: ⟨(some 28), .move (.tmp 27), none, false⟩ :: (ac5_G2 ++ [])))
            (.cond (.tmp 33)
              (.seq (.region false [⟨(some 4), .move (.const (.bool false)), none, false⟩])
                (.ret))
              (.skip)))
          (.seq (.region false [⟨(some 6), .move (.const (.int .i64 (-1))), none, false⟩])
            (.seq (.seq (.region false [⟨(some 7), .move (.const (.int .i64 0)), none, false⟩])
                (.block 0 (.loop ac5_L1)))
              (.seq (.region false [⟨(some 51), .move (.tmp 0), none, false⟩,
                    ⟨(some 52), .call (.func 13) [(.tmp 51)], none, false⟩,
                    ⟨(some 8), .move (.tmp 52), none, false⟩])
                (.seq (.seq (.region false [⟨(some 53), .move (.tmp 8), none, false⟩,
                        ⟨(some 54), .bi .len [23].toArray 3 [(.tmp 53)], none, false⟩,
                        ⟨(some 55), .move (.tmp 6), none, false⟩,
                        ⟨(some 56), .bin .add 3 (.tmp 55) (.const (.int .i64 1)), none, false⟩,
                        ⟨(some 57), .bin .neq 3 (.tmp 54) (.tmp 56), none, false⟩])
                    (.cond (.tmp 57)
                      (.seq (.region false [⟨(some 4), .move (.const (.bool false)), none, false⟩])
                        (.ret))
                      (.skip)))
                  (.seq (.seq (.region false [⟨(some 58), .move (.tmp 0), none, false⟩,
                          ⟨(some 59), .move (.tmp 1), none, false⟩,
                          ⟨(some 60), .call (.func 11) [(.tmp 58), (.tmp 59)], none, false⟩,
                          ⟨(some 61), .un .not (.tmp 60), none, false⟩])
                      (.cond (.tmp 61)
                        (.seq (.region false [⟨(some 62), .call (.func 7) [], none, false⟩,
                              ⟨(some 4), .move (.tmp 62), none, false⟩])
                          (.ret))
                        (.skip)))
                    (.seq (.seq (.region false [⟨(some 63), .move (.tmp 1), none, false⟩,
                            ⟨(some 64), .bi .len [23].toArray 3 [(.tmp 63)], none, false⟩,
                            ⟨(some 65), .move (.tmp 0), none, false⟩,
                            ⟨(some 66), .bi .len [22].toArray 3 [(.tmp 65)], none, false⟩,
                            ⟨(some 67), .bin .neq 3 (.tmp 64) (.tmp 66), none, false⟩])
                        (.cond (.tmp 67)
                          (.seq (.region false [⟨(some 4), .move (.const (.bool false)), none, false⟩])
                            (.ret))
                          (.skip)))
                      (.seq (.seq (.region false [⟨(some 9), .move (.const (.int .i64 0)), none, false⟩])
                          (.block 2 (.loop ac5_L2)))
                        (.seq (.seq (.region false [⟨(some 10), .move (.const (.int .i64 0)), none, false⟩])
                            (.block 4 (.loop ac5_L3)))
                          (.seq (.seq (.region false [⟨(some 11), .move (.const (.int .i64 0)), none, false⟩])
                              (.block 6 (.loop ac5_L4)))
                            (.seq (.region false [⟨(some 137), .call (.func 7) [], none, false⟩,
                                  ⟨(some 4), .move (.tmp 137), none, false⟩])
                              (.ret))))))))))))))
theorem text5 : FnText Try.prog 5 [] 138 2 ac5 [(4, none)] :=
  ⟨Try.call5, follows, Try.f5, _, Try.func5, rfl, rfl, by decide, by kernel_rfl, by kernel_rfl⟩

end Go.Proofs.Ytfcgnnafaoanfaa.N
