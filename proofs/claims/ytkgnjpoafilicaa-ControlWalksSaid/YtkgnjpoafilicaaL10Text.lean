/-
  The text of each function of this seat, az0 the plain library tells it; each by the kernel's own reckoning from the program.
-/
import Derived.Test.YtkgnjpoafilicaaPbWp
import Derived.Test.YtkgnjpoafilicaaRows
set_option linter.unusedVariables false
set_option maxRecDepth 100000
namespace Go.Proofs.Ytkgnjpoafilicaa
open Go Go.Pb
theorem follows : Try.prog.follows .mixedOrders = true := by kernel_rfl
def ac47_G1 : List AOper :=
  [⟨(some 14), .move (.tmp 7), (some (13, true)), false⟩,
    ⟨(some 15), .move (.tmp 1), (some (13, true)), false⟩,
    ⟨(some 16), .bin .leq 3 (.tmp 14) (.tmp 15), (some (13, true)), false⟩,
    ⟨(some 17), .pick (.tmp 13) (.tmp 16) (.const (.bool false)), none, false⟩]
def ac47_G2 : List AOper :=
  [⟨(some 30), .move (.tmp 2), (some (29, false)), false⟩,
    ⟨(some 31), .bin .eql 3 (.tmp 30) (.const (.int .i64 0)), (some (29, false)), false⟩,
    ⟨(some 32), .pick (.tmp 29) (.const (.bool true)) (.tmp 31), none, false⟩]
def ac47_L1 : AC :=
  .seq (.seq (.region false (⟨(some 9), .move (.tmp 8), none, false⟩ :: ⟨(some 10), .move (.tmp 0), none, false⟩ :: ⟨(some 11), .bi .len [28].toArray 3 [(.tmp 10)], none, false⟩ :: ⟨(some 12), .bin .lss 3 (.tmp 9) (.tmp 11), none, false⟩ :: ⟨(some 13), .move (.tmp 12), none, false⟩ :: (ac47_G1 ++ [])))
      (.cond (.tmp 17)
        (.skip)
        (.exit 0)))
    (.seq (.block 1 (.seq (.region false [⟨(some 20), .move (.tmp 7), none, false⟩,
              ⟨(some 21), .bin .add 3 (.tmp 20) (.const (.int .i64 1)), none, false⟩,
              ⟨(some 7), .move (.tmp 21), none, false⟩])
          (.seq (.seq (.region false (⟨(some 22), .move (.tmp 0), none, false⟩ :: ⟨(some 23), .move (.tmp 8), none, false⟩ :: ⟨(some 24), .iaddr 5 (.tmp 22) (.tmp 23), none, false⟩ :: ⟨(some 25), .faddr 2 1 false (.tmp 24), none, false⟩ :: ⟨(some 26), .load 1 false (.tmp 25), none, false⟩ :: ⟨(some 27), .bi .len [38].toArray 3 [(.tmp 26)], none, false⟩ :: ⟨(some 28), .bin .gtr 3 (.tmp 27) (.const (.int .i64 40)), none, false⟩ :: ⟨(some 29), .move (.tmp 28), none, false⟩ :: (ac47_G2 ++ [])))
              (.cond (.tmp 32)
                (.seq (.region false [⟨(some 33), .move (.tmp 1), none, false⟩,
                      ⟨(some 34), .bin .add 3 (.tmp 33) (.const (.int .i64 1)), none, false⟩,
                      ⟨(some 6), .move (.tmp 34), none, false⟩])
                  (.ret))
                (.skip)))
            (.seq (.region false [⟨(some 35), .move (.tmp 7), none, false⟩,
                  ⟨(some 36), .move (.tmp 0), none, false⟩,
                  ⟨(some 37), .move (.tmp 8), none, false⟩,
                  ⟨(some 38), .iaddr 5 (.tmp 36) (.tmp 37), none, false⟩,
                  ⟨(some 39), .faddr 3 1 false (.tmp 38), none, false⟩,
                  ⟨(some 40), .load 1 false (.tmp 39), none, false⟩,
                  ⟨(some 41), .move (.tmp 1), none, false⟩,
                  ⟨(some 42), .move (.tmp 7), none, false⟩,
                  ⟨(some 43), .bin .sub 3 (.tmp 41) (.tmp 42), none, false⟩,
                  ⟨(some 44), .move (.tmp 2), none, false⟩,
                  ⟨(some 45), .bin .sub 3 (.tmp 44) (.const (.int .i64 1)), none, false⟩,
                  ⟨(some 46), .call (.func 47) [(.tmp 40), (.tmp 43), (.tmp 45)], none, false⟩,
                  ⟨(some 47), .bin .add 3 (.tmp 35) (.tmp 46), none, false⟩,
                  ⟨(some 7), .move (.tmp 47), none, false⟩])
              (.seq (.region false [⟨(some 48), .move (.tmp 7), none, false⟩,
                    ⟨(some 49), .move (.tmp 1), none, false⟩,
                    ⟨(some 50), .bin .leq 3 (.tmp 48) (.tmp 49), none, false⟩])
                (.cond (.tmp 50)
                  (.region false [⟨(some 51), .move (.tmp 7), none, false⟩,
                      ⟨(some 52), .move (.tmp 0), none, false⟩,
                      ⟨(some 53), .move (.tmp 8), none, false⟩,
                      ⟨(some 54), .iaddr 5 (.tmp 52) (.tmp 53), none, false⟩,
                      ⟨(some 55), .faddr 4 1 false (.tmp 54), none, false⟩,
                      ⟨(some 56), .load 1 false (.tmp 55), none, false⟩,
                      ⟨(some 57), .move (.tmp 1), none, false⟩,
                      ⟨(some 58), .move (.tmp 7), none, false⟩,
                      ⟨(some 59), .bin .sub 3 (.tmp 57) (.tmp 58), none, false⟩,
                      ⟨(some 60), .move (.tmp 2), none, false⟩,
                      ⟨(some 61), .bin .sub 3 (.tmp 60) (.const (.int .i64 1)), none, false⟩,
                      ⟨(some 62), .call (.func 47) [(.tmp 56), (.tmp 59), (.tmp 61)], none, false⟩,
                      ⟨(some 63), .bin .add 3 (.tmp 51) (.tmp 62), none, false⟩,
                      ⟨(some 7), .move (.tmp 63), none, false⟩])
                  (.skip)))))))
      (.region false [⟨(some 18), .move (.tmp 8), none, false⟩,
          ⟨(some 19), .bin .add 3 (.tmp 18) (.const (.int .i64 1)), none, false⟩,
          ⟨(some 8), .move (.tmp 19), none, false⟩]))
/-- patchbay/patchbaylaw20.size -/
def ac47 : AC :=
  .seq (.region false [⟨(some 6), .move (.const (.int .i64 0)), none, false⟩])
    (.seq (.region false [⟨(some 7), .move (.const (.int .i64 0)), none, false⟩])
      (.seq (.seq (.region false [⟨(some 8), .move (.const (.int .i64 0)), none, false⟩])
          (.block 0 (.loop ac47_L1)))
        (.seq (.region false [⟨(some 64), .move (.tmp 7), none, false⟩,
              ⟨(some 6), .move (.tmp 64), none, false⟩])
          (.ret))))
theorem text47 : FnText Try.prog 47 [] 65 3 ac47 [(6, none)] :=
  ⟨Try.call47, follows, Try.f47, _, Try.func47, rfl, rfl, by decide, by kernel_rfl, by kernel_rfl⟩


/-- patchbay/patchbaylaw20.Small -/
def ac14 : AC :=
  .seq (.region false [⟨(some 4), .move (.const (.bool false)), none, false⟩])
    (.seq (.region false [⟨(some 5), .move (.tmp 0), none, false⟩,
          ⟨(some 6), .move (.tmp 1), none, false⟩,
          ⟨(some 7), .call (.func 47) [(.tmp 5), (.tmp 6), (.const (.int .i64 12))], none, false⟩,
          ⟨(some 8), .move (.tmp 1), none, false⟩,
          ⟨(some 9), .bin .leq 3 (.tmp 7) (.tmp 8), none, false⟩,
          ⟨(some 4), .move (.tmp 9), none, false⟩])
      (.ret))
theorem text14 : FnText Try.prog 14 [] 10 2 ac14 [(4, none)] :=
  ⟨Try.call14, follows, Try.f14, _, Try.func14, rfl, rfl, by decide, by kernel_rfl, by kernel_rfl⟩

def ac15_G1 : List AOper :=
  [⟨(some 28), .move (.tmp 1), (some (27, true)), false⟩,
    ⟨(some 29), .call (.func 22) [(.tmp 28)], (some (27, true)), false⟩,
    ⟨(some 30), .bin .eql 3 (.tmp 29) (.const (.int .i64 2)), (some (27, true)), false⟩,
    ⟨(some 31), .pick (.tmp 27) (.tmp 30) (.const (.bool false)), none, false⟩]
def ac15_G2 : List AOper :=
  [⟨(some 33), .faddr 1 1 false (.tmp 2), (some (32, true)), false⟩,
    ⟨(some 34), .load 1 false (.tmp 33), (some (32, true)), false⟩,
    ⟨(some 35), .bin .eql 3 (.tmp 34) (.const (.int .i64 7)), (some (32, true)), false⟩,
    ⟨(some 36), .pick (.tmp 32) (.tmp 35) (.const (.bool false)), none, false⟩]
def ac15_G3 : List AOper :=
  [⟨(some 38), .move (.tmp 3), (some (37, true)), false⟩,
    ⟨(some 39), .pick (.tmp 37) (.tmp 38) (.const (.bool false)), none, false⟩]
def ac15_G4 : List AOper :=
  [⟨(some 41), .move (.tmp 1), (some (40, true)), false⟩,
    ⟨(some 42), .call (.func 25) [(.tmp 41)], (some (40, true)), false⟩,
    ⟨(some 43), .bslice false 3 1 false [(.const (.int .i64 4)), (.const (.int .i64 2)), (.const (.int .i64 7))], (some (40, true)), false⟩,
    ⟨(some 44), .call (.func 24) [(.tmp 42), (.tmp 43)], (some (40, true)), false⟩,
    ⟨(some 45), .pick (.tmp 40) (.tmp 44) (.const (.bool false)), none, false⟩]
def ac15_G5 : List AOper :=
  [⟨(some 47), .move (.tmp 5), (some (46, true)), false⟩,
    ⟨(some 48), .bin .neq 35 (.tmp 47) (.const (.int .i64 0)), (some (46, true)), false⟩,
    ⟨(some 49), .pick (.tmp 46) (.tmp 48) (.const (.bool false)), none, false⟩]
/-- patchbay/patchbaylaw20.works -/
def ac15 : AC :=
  .seq (.region false [⟨(some 0), .move (.const (.bool false)), none, false⟩])
    (.seq (.region false [⟨(some 6), .build [(.int .i64 0), (.int .i64 0), (.slice none 0 0), (.slice none 0 0), (.slice none 0 0)] [(0, 1, (.const (.int .i64 1))), (1, 1, (.const (.int .i64 4)))], none, false⟩,
          ⟨(some 7), .bslice false 40 5 false [(.tmp 6)], none, false⟩,
          ⟨(some 8), .build [(.int .i64 0), (.int .i64 0), (.slice none 0 0), (.slice none 0 0), (.slice none 0 0)] [(0, 1, (.const (.int .i64 3))), (1, 1, (.const (.int .i64 2)))], none, false⟩,
          ⟨(some 9), .build [(.int .i64 0), (.int .i64 0), (.slice none 0 0), (.slice none 0 0), (.slice none 0 0)] [(0, 1, (.const (.int .i64 1))), (1, 1, (.const (.int .i64 7)))], none, false⟩,
          ⟨(some 10), .bslice false 40 5 false [(.tmp 8), (.tmp 9)], none, false⟩,
          ⟨(some 11), .build [(.int .i64 0), (.int .i64 0), (.slice none 0 0), (.slice none 0 0), (.slice none 0 0)] [(0, 1, (.const (.int .i64 2))), (3, 1, (.tmp 7)), (4, 1, (.tmp 10))], none, false⟩,
          ⟨(some 12), .bslice false 40 5 false [(.tmp 11)], none, false⟩,
          ⟨(some 1), .move (.tmp 12), none, false⟩])
      (.seq (.region false [⟨(some 14), .move (.tmp 1), none, false⟩,
            ⟨(some 15), .call (.func 18) [(.tmp 14), (.const (.int .i64 3))], none, false⟩,
            ⟨(some 13), .move (.tmp 15), none, false⟩,
            ⟨(some 16), .extract (.tmp 13) 0, none, false⟩,
            ⟨(some 17), .extract (.tmp 13) 1, none, false⟩,
            ⟨(some 2), .alloc true 40 (.agg [(.int .i64 0), (.int .i64 0), (.slice none 0 0), (.slice none 0 0), (.slice none 0 0)].toArray), none, false⟩,
            ⟨none, .store 5 (.tmp 2) (.tmp 16), none, false⟩,
            ⟨(some 3), .move (.tmp 17), none, false⟩])
        (.seq (.region false [⟨(some 19), .move (.tmp 1), none, false⟩,
              ⟨(some 20), .build [(.string ⟨[].toArray⟩), (.slice none 0 0), (.slice none 0 0), (.slice none 0 0), (.slice none 0 0), (.slice none 0 0), (.slice none 0 0), (.slice none 0 0), (.slice none 0 0)] [(7, 1, (.tmp 19))], none, false⟩,
              ⟨(some 21), .call (.func 16) [(.tmp 20)], none, false⟩,
              ⟨(some 18), .move (.tmp 21), none, false⟩,
              ⟨(some 22), .extract (.tmp 18) 0, none, false⟩,
              ⟨(some 23), .extract (.tmp 18) 1, none, false⟩,
              ⟨(some 4), .move (.tmp 22), none, false⟩,
              ⟨(some 5), .move (.tmp 23), none, false⟩])
          (.seq (.region false (⟨(some 24), .move (.tmp 1), none, false⟩ :: ⟨(some 25), .call (.func 20) [(.tmp 24)], none, false⟩ :: ⟨(some 26), .bin .eql 3 (.tmp 25) (.const (.int .i64 4)), none, false⟩ :: ⟨(some 27), .move (.tmp 26), none, false⟩ :: (ac15_G1 ++ (⟨(some 32), .move (.tmp 31), none, false⟩ :: (ac15_G2 ++ (⟨(some 37), .move (.tmp 36), none, false⟩ :: (ac15_G3 ++ (⟨(some 40), .move (.tmp 39), none, false⟩ :: (ac15_G4 ++ (⟨(some 46), .move (.tmp 45), none, false⟩ :: (ac15_G5 ++ [⟨(some 0), .move (.tmp 49), none, false⟩])))))))))))
            (.ret)))))
theorem text15 : FnText Try.prog 15 [2] 50 0 ac15 [(0, none)] :=
  ⟨Try.call15, follows, Try.f15, _, Try.func15, rfl, rfl, by decide, by kernel_rfl, by kernel_rfl⟩

def ac74_G1 : List AOper :=
  [⟨(some 11), .move (.tmp 0), (some (10, true)), false⟩,
    ⟨(some 12), .nilCheck (.tmp 11), (some (10, true)), false⟩,
    ⟨(some 13), .faddr 0 1 false (.tmp 12), (some (10, true)), false⟩,
    ⟨(some 14), .load 1 false (.tmp 13), (some (10, true)), false⟩,
    ⟨(some 15), .move (.tmp 0), (some (10, true)), false⟩,
    ⟨(some 16), .nilCheck (.tmp 15), (some (10, true)), false⟩,
    ⟨(some 17), .faddr 1 1 false (.tmp 16), (some (10, true)), false⟩,
    ⟨(some 18), .load 1 false (.tmp 17), (some (10, true)), false⟩,
    ⟨(some 19), .move (.tmp 0), (some (10, true)), false⟩,
    ⟨(some 20), .nilCheck (.tmp 19), (some (10, true)), false⟩,
    ⟨(some 21), .faddr 0 1 false (.tmp 20), (some (10, true)), false⟩,
    ⟨(some 22), .load 1 false (.tmp 21), (some (10, true)), false⟩,
    ⟨(some 23), .bi .len [50].toArray 3 [(.tmp 22)], (some (10, true)), false⟩,
    ⟨(some 24), .bin .rem 3 (.tmp 18) (.tmp 23), (some (10, true)), false⟩,
    ⟨(some 25), .iaddr 1 (.tmp 14) (.tmp 24), (some (10, true)), false⟩,
    ⟨(some 26), .load 1 false (.tmp 25), (some (10, true)), false⟩,
    ⟨(some 27), .pick (.tmp 10) (.tmp 26) (.const (.bool false)), none, false⟩]
/-- (*patchbay/patchbaylaw20.walk).answer -/
def ac74 : AC :=
  .seq (.region false [⟨(some 2), .move (.const (.bool false)), none, false⟩])
    (.seq (.region true (⟨(some 4), .move (.tmp 0), none, false⟩ :: ⟨(some 5), .nilCheck (.tmp 4), none, false⟩ :: ⟨(some 6), .faddr 0 1 false (.tmp 5), none, false⟩ :: ⟨(some 7), .load 1 false (.tmp 6), none, false⟩ :: ⟨(some 8), .bi .len [50].toArray 3 [(.tmp 7)], none, false⟩ :: ⟨(some 9), .bin .gtr 3 (.tmp 8) (.const (.int .i64 0)), none, false⟩ :: ⟨(some 10), .move (.tmp 9), none, false⟩ :: (ac74_G1 ++ [⟨(some 3), .move (.tmp 27), none, false⟩])))
      (.seq (.region false [⟨(some 28), .move (.tmp 0), none, false⟩,
            ⟨(some 29), .nilCheck (.tmp 28), none, false⟩,
            ⟨(some 30), .faddr 1 1 false (.tmp 29), none, false⟩,
            ⟨(some 31), .load 1 false (.tmp 30), none, false⟩,
            ⟨(some 32), .bin .add 3 (.tmp 31) (.const (.int .i64 1)), none, false⟩,
            ⟨(some 33), .nilCheck (.tmp 28), none, false⟩,
            ⟨(some 34), .faddr 1 1 false (.tmp 33), none, false⟩,
            ⟨none, .store 1 (.tmp 34) (.tmp 32), none, false⟩])
        (.seq (.region false [⟨(some 35), .move (.tmp 3), none, false⟩,
              ⟨(some 2), .move (.tmp 35), none, false⟩])
          (.ret))))
theorem text74 : FnText Try.prog 74 [] 36 1 ac74 [(2, none)] :=
  ⟨Try.call74, follows, Try.f74, _, Try.func74, rfl, rfl, by decide, by kernel_rfl, by kernel_rfl⟩


/-- (*patchbay/patchbaylaw20.walk).apply -/
def ac40 : AC :=
  .seq (.region false [⟨(some 4), .move (.const (.bool false)), none, false⟩])
    (.seq (.region false [⟨(some 5), .move (.tmp 0), none, false⟩,
          ⟨(some 6), .move (.tmp 0), none, false⟩,
          ⟨(some 7), .nilCheck (.tmp 6), none, false⟩,
          ⟨(some 8), .faddr 2 1 false (.tmp 7), none, false⟩,
          ⟨(some 9), .load 1 false (.tmp 8), none, false⟩,
          ⟨(some 10), .move (.tmp 1), none, false⟩,
          ⟨(some 11), .bslice false 3 1 false [(.tmp 10)], none, false⟩,
          ⟨(some 12), .append 29 3 1 8 (.tmp 9) (.tmp 11), none, false⟩,
          ⟨(some 13), .nilCheck (.tmp 5), none, false⟩,
          ⟨(some 14), .faddr 2 1 false (.tmp 13), none, false⟩,
          ⟨none, .store 1 (.tmp 14) (.tmp 12), none, false⟩])
      (.seq (.region false [⟨(some 15), .move (.tmp 0), none, false⟩,
            ⟨(some 16), .move (.tmp 0), none, false⟩,
            ⟨(some 17), .nilCheck (.tmp 16), none, false⟩,
            ⟨(some 18), .faddr 3 1 false (.tmp 17), none, false⟩,
            ⟨(some 19), .load 1 false (.tmp 18), none, false⟩,
            ⟨(some 20), .bslice false 3 1 false [(.const (.int .i64 (-1)))], none, false⟩,
            ⟨(some 21), .append 29 3 1 8 (.tmp 19) (.tmp 20), none, false⟩,
            ⟨(some 22), .nilCheck (.tmp 15), none, false⟩,
            ⟨(some 23), .faddr 3 1 false (.tmp 22), none, false⟩,
            ⟨none, .store 1 (.tmp 23) (.tmp 21), none, false⟩])
        (.seq (.region false [⟨(some 24), .move (.tmp 0), none, false⟩,
              ⟨(some 25), .call (.func 74) [(.tmp 24)], none, false⟩,
              ⟨(some 4), .move (.tmp 25), none, false⟩])
          (.ret))))
theorem text40 : FnText Try.prog 40 [] 26 2 ac40 [(4, none)] :=
  ⟨Try.call40, follows, Try.f40, _, Try.func40, rfl, rfl, by decide, by kernel_rfl, by kernel_rfl⟩


/-- (*patchbay/patchbaylaw20.walk).test -/
def ac41 : AC :=
  .seq (.region false [⟨(some 4), .move (.const (.bool false)), none, false⟩])
    (.seq (.region false [⟨(some 5), .move (.tmp 0), none, false⟩,
          ⟨(some 6), .move (.tmp 0), none, false⟩,
          ⟨(some 7), .nilCheck (.tmp 6), none, false⟩,
          ⟨(some 8), .faddr 3 1 false (.tmp 7), none, false⟩,
          ⟨(some 9), .load 1 false (.tmp 8), none, false⟩,
          ⟨(some 10), .move (.tmp 1), none, false⟩,
          ⟨(some 11), .bi .len [38].toArray 3 [(.tmp 10)], none, false⟩,
          ⟨(some 12), .bslice false 3 1 false [(.tmp 11)], none, false⟩,
          ⟨(some 13), .append 29 3 1 8 (.tmp 9) (.tmp 12), none, false⟩,
          ⟨(some 14), .nilCheck (.tmp 5), none, false⟩,
          ⟨(some 15), .faddr 3 1 false (.tmp 14), none, false⟩,
          ⟨none, .store 1 (.tmp 15) (.tmp 13), none, false⟩])
      (.seq (.region false [⟨(some 16), .move (.tmp 0), none, false⟩,
            ⟨(some 17), .call (.func 74) [(.tmp 16)], none, false⟩,
            ⟨(some 4), .move (.tmp 17), none, false⟩])
        (.ret)))
theorem text41 : FnText Try.prog 41 [] 18 2 ac41 [(4, none)] :=
  ⟨Try.call41, follows, Try.f41, _, Try.func41, rfl, rfl, by decide, by kernel_rfl, by kernel_rfl⟩


/-- patchbay/control.Walk$1 -/
def ac71 : AC :=
  .seq (.region false [⟨(some 2), .move (.const (.bool false)), none, false⟩])
    (.seq (.region false [⟨(some 2), .move (.const (.bool false)), none, false⟩])
      (.ret))
theorem text71 : FnText Try.prog 71 [] 3 1 ac71 [(2, none)] :=
  ⟨Try.call71, follows, Try.f71, _, Try.func71, rfl, rfl, by decide, by kernel_rfl, by kernel_rfl⟩


/-- patchbay/control.Walk$2 -/
def ac72 : AC :=
  .seq (.region false [⟨(some 2), .move (.const (.bool false)), none, false⟩])
    (.seq (.region false [⟨(some 2), .move (.const (.bool false)), none, false⟩])
      (.ret))
theorem text72 : FnText Try.prog 72 [] 3 1 ac72 [(2, none)] :=
  ⟨Try.call72, follows, Try.f72, _, Try.func72, rfl, rfl, by decide, by kernel_rfl, by kernel_rfl⟩


/-- patchbay/control.Walk -/
def ac39 : AC :=
  .seq (.seq (.region false [⟨(some 6), .move (.tmp 1), none, false⟩,
          ⟨(some 7), .bin .eql 68 (.tmp 6) (.const .nilFunc), none, false⟩])
      (.cond (.tmp 7)
        (.region false [⟨(some 1), .move (.func 71), none, false⟩])
        (.skip)))
    (.seq (.seq (.region false [⟨(some 8), .move (.tmp 2), none, false⟩,
            ⟨(some 9), .bin .eql 69 (.tmp 8) (.const .nilFunc), none, false⟩])
        (.cond (.tmp 9)
          (.region false [⟨(some 2), .move (.func 72), none, false⟩])
          (.skip)))
      (.region false [⟨(some 10), .move (.tmp 1), none, false⟩,
          ⟨(some 11), .move (.tmp 2), none, false⟩,
          ⟨(some 12), .build [.nilFunc, .nilFunc] [(0, 1, (.tmp 10)), (1, 1, (.tmp 11))], none, false⟩,
          ⟨(some 13), .move (.tmp 0), none, false⟩,
          ⟨(some 14), .call (.func 73) [(.tmp 12), (.tmp 13)], none, false⟩]))
theorem text39 : FnText Try.prog 39 [] 15 3 ac39 [] :=
  ⟨Try.call39, follows, Try.f39, _, Try.func39, rfl, rfl, by decide, by kernel_rfl, by kernel_rfl⟩

def ac42_L1 : AC :=
  .seq (.seq (.region false [⟨(some 6), .move (.tmp 4), none, false⟩,
          ⟨(some 7), .move (.tmp 1), none, false⟩,
          ⟨(some 8), .bi .len [28].toArray 3 [(.tmp 7)], none, false⟩,
          ⟨(some 9), .bin .lss 3 (.tmp 6) (.tmp 8), none, false⟩])
      (.cond (.tmp 9)
        (.skip)
        (.exit 0)))
    (.seq (.block 1 (.seq (.region false [⟨(some 12), .move (.tmp 1), none, false⟩,
              ⟨(some 13), .move (.tmp 4), none, false⟩,
              ⟨(some 14), .iaddr 5 (.tmp 12) (.tmp 13), none, false⟩,
              ⟨(some 15), .faddr 0 1 false (.tmp 14), none, false⟩,
              ⟨(some 16), .load 1 false (.tmp 15), none, false⟩])
          (.block 2 (.seq (.region false [⟨(some 18), .bin .eql 3 (.tmp 16) (.const (.int .i64 1)), none, false⟩,
                  ⟨(some 17), .move (.tmp 18), none, false⟩])
              (.cond (.tmp 17)
                (.region false [⟨(some 19), .move (.tmp 0), none, false⟩,
                    ⟨(some 20), .move (.tmp 1), none, false⟩,
                    ⟨(some 21), .move (.tmp 4), none, false⟩,
                    ⟨(some 22), .iaddr 5 (.tmp 20) (.tmp 21), none, false⟩,
                    ⟨(some 23), .faddr 1 1 false (.tmp 22), none, false⟩,
                    ⟨(some 24), .load 1 false (.tmp 23), none, false⟩,
                    ⟨(some 25), .call (.func 40) [(.tmp 19), (.tmp 24)], none, false⟩])
                (.seq (.seq (.region false [⟨(some 27), .bin .eql 3 (.tmp 16) (.const (.int .i64 3)), none, false⟩,
                        ⟨(some 26), .move (.tmp 27), none, false⟩])
                    (.cond (.tmp 26)
                      (.skip)
                      (.region false [⟨(some 28), .bin .eql 3 (.tmp 16) (.const (.int .i64 2)), none, false⟩,
                          ⟨(some 26), .move (.tmp 28), none, false⟩])))
                  (.cond (.tmp 26)
                    (.seq (.region false [⟨(some 5), .move (.const (.bool false)), none, false⟩])
                      (.seq (.seq (.region false [⟨(some 29), .move (.tmp 1), none, false⟩,
                              ⟨(some 30), .move (.tmp 4), none, false⟩,
                              ⟨(some 31), .iaddr 5 (.tmp 29) (.tmp 30), none, false⟩,
                              ⟨(some 32), .faddr 0 1 false (.tmp 31), none, false⟩,
                              ⟨(some 33), .load 1 false (.tmp 32), none, false⟩,
                              ⟨(some 34), .bin .eql 3 (.tmp 33) (.const (.int .i64 3)), none, false⟩])
                          (.cond (.tmp 34)
                            (.region false [⟨(some 35), .move (.tmp 0), none, false⟩,
                                ⟨(some 36), .move (.tmp 1), none, false⟩,
                                ⟨(some 37), .move (.tmp 4), none, false⟩,
                                ⟨(some 38), .iaddr 5 (.tmp 36) (.tmp 37), none, false⟩,
                                ⟨(some 39), .faddr 1 1 false (.tmp 38), none, false⟩,
                                ⟨(some 40), .load 1 false (.tmp 39), none, false⟩,
                                ⟨(some 41), .call (.func 40) [(.tmp 35), (.tmp 40)], none, false⟩,
                                ⟨(some 5), .move (.tmp 41), none, false⟩])
                            (.region false [⟨(some 42), .move (.tmp 0), none, false⟩,
                                ⟨(some 43), .move (.tmp 1), none, false⟩,
                                ⟨(some 44), .move (.tmp 4), none, false⟩,
                                ⟨(some 45), .iaddr 5 (.tmp 43) (.tmp 44), none, false⟩,
                                ⟨(some 46), .faddr 2 1 false (.tmp 45), none, false⟩,
                                ⟨(some 47), .load 1 false (.tmp 46), none, false⟩,
                                ⟨(some 48), .call (.func 41) [(.tmp 42), (.tmp 47)], none, false⟩,
                                ⟨(some 5), .move (.tmp 48), none, false⟩])))
                        (.seq (.region false [⟨(some 49), .move (.tmp 5), none, false⟩])
                          (.cond (.tmp 49)
                            (.region false [⟨(some 50), .move (.tmp 0), none, false⟩,
                                ⟨(some 51), .move (.tmp 1), none, false⟩,
                                ⟨(some 52), .move (.tmp 4), none, false⟩,
                                ⟨(some 53), .iaddr 5 (.tmp 51) (.tmp 52), none, false⟩,
                                ⟨(some 54), .faddr 3 1 false (.tmp 53), none, false⟩,
                                ⟨(some 55), .load 1 false (.tmp 54), none, false⟩,
                                ⟨(some 56), .call (.func 42) [(.tmp 50), (.tmp 55)], none, false⟩])
                            (.region false [⟨(some 57), .move (.tmp 0), none, false⟩,
                                ⟨(some 58), .move (.tmp 1), none, false⟩,
                                ⟨(some 59), .move (.tmp 4), none, false⟩,
                                ⟨(some 60), .iaddr 5 (.tmp 58) (.tmp 59), none, false⟩,
                                ⟨(some 61), .faddr 4 1 false (.tmp 60), none, false⟩,
                                ⟨(some 62), .load 1 false (.tmp 61), none, false⟩,
                                ⟨(some 63), .call (.func 42) [(.tmp 57), (.tmp 62)], none, false⟩])))))
                    (.skip))))))))
      (.region false [⟨(some 10), .move (.tmp 4), none, false⟩,
          ⟨(some 11), .bin .add 3 (.tmp 10) (.const (.int .i64 1)), none, false⟩,
          ⟨(some 4), .move (.tmp 11), none, false⟩]))
/-- (*patchbay/patchbaylaw20.walk).execute -/
def ac42 : AC :=
  .seq (.region false [⟨(some 4), .move (.const (.int .i64 0)), none, false⟩])
    (.block 0 (.loop ac42_L1))
theorem text42 : FnText Try.prog 42 [] 64 2 ac42 [] :=
  ⟨Try.call42, follows, Try.f42, _, Try.func42, rfl, rfl, by decide, by kernel_rfl, by kernel_rfl⟩

def ac24_L1 : AC :=
  .seq (.seq (.region false [⟨(some 11), .move (.tmp 5), none, false⟩,
          ⟨(some 12), .move (.tmp 0), none, false⟩,
          ⟨(some 13), .bi .len [29].toArray 3 [(.tmp 12)], none, false⟩,
          ⟨(some 14), .bin .lss 3 (.tmp 11) (.tmp 13), none, false⟩])
      (.cond (.tmp 14)
        (.skip)
        (.exit 0)))
    (.seq (.block 1 (.seq (.region true [⟨(some 17), .move (.tmp 0), none, false⟩,
              ⟨(some 18), .move (.tmp 5), none, false⟩,
              ⟨(some 19), .iaddr 1 (.tmp 17) (.tmp 18), none, false⟩,
              ⟨(some 20), .load 1 false (.tmp 19), none, false⟩,
              ⟨(some 21), .move (.tmp 1), none, false⟩,
              ⟨(some 22), .move (.tmp 5), none, false⟩,
              ⟨(some 23), .iaddr 1 (.tmp 21) (.tmp 22), none, false⟩,
              ⟨(some 24), .load 1 false (.tmp 23), none, false⟩,
              ⟨(some 25), .bin .neq 3 (.tmp 20) (.tmp 24), none, false⟩])
          (.cond (.tmp 25)
            (.seq (.region false [⟨(some 4), .move (.const (.bool false)), none, false⟩])
              (.ret))
            (.skip))))
      (.region false [⟨(some 15), .move (.tmp 5), none, false⟩,
          ⟨(some 16), .bin .add 3 (.tmp 15) (.const (.int .i64 1)), none, false⟩,
          ⟨(some 5), .move (.tmp 16), none, false⟩]))
/-- patchbay/patchbayref02.EqualInts -/
def ac24 : AC :=
  .seq (.region false [⟨(some 4), .move (.const (.bool false)), none, false⟩])
    (.seq (.seq (.region false [⟨(some 6), .move (.tmp 0), none, false⟩,
            ⟨(some 7), .bi .len [29].toArray 3 [(.tmp 6)], none, false⟩,
            ⟨(some 8), .move (.tmp 1), none, false⟩,
            ⟨(some 9), .bi .len [29].toArray 3 [(.tmp 8)], none, false⟩,
            ⟨(some 10), .bin .neq 3 (.tmp 7) (.tmp 9), none, false⟩])
        (.cond (.tmp 10)
          (.seq (.region false [⟨(some 4), .move (.const (.bool false)), none, false⟩])
            (.ret))
          (.skip)))
      (.seq (.seq (.region false [⟨(some 5), .move (.const (.int .i64 0)), none, false⟩])
          (.block 0 (.loop ac24_L1)))
        (.seq (.region false [⟨(some 4), .move (.const (.bool true)), none, false⟩])
          (.ret))))
theorem text24 : FnText Try.prog 24 [] 26 2 ac24 [(4, none)] :=
  ⟨Try.call24, follows, Try.f24, _, Try.func24, rfl, rfl, by decide, by kernel_rfl, by kernel_rfl⟩

def ac10_G1 : List AOper :=
  [⟨(some 11), .move (.tmp 1), (some (10, false)), false⟩,
    ⟨(some 12), .bi .len [50].toArray 3 [(.tmp 11)], (some (10, false)), false⟩,
    ⟨(some 13), .bin .gtr 3 (.tmp 12) (.const (.int .i64 20)), (some (10, false)), false⟩,
    ⟨(some 14), .pick (.tmp 10) (.const (.bool true)) (.tmp 13), none, false⟩]
def ac10_G2 : List AOper :=
  [⟨(some 41), .move (.tmp 5), (some (40, true)), false⟩,
    ⟨(some 42), .nilCheck (.tmp 41), (some (40, true)), false⟩,
    ⟨(some 43), .faddr 3 1 false (.tmp 42), (some (40, true)), false⟩,
    ⟨(some 44), .load 1 false (.tmp 43), (some (40, true)), false⟩,
    ⟨(some 45), .move (.tmp 6), (some (40, true)), false⟩,
    ⟨(some 46), .nilCheck (.tmp 45), (some (40, true)), false⟩,
    ⟨(some 47), .faddr 3 1 false (.tmp 46), (some (40, true)), false⟩,
    ⟨(some 48), .load 1 false (.tmp 47), (some (40, true)), false⟩,
    ⟨(some 49), .call (.func 24) [(.tmp 44), (.tmp 48)], (some (40, true)), false⟩,
    ⟨(some 50), .pick (.tmp 40) (.tmp 49) (.const (.bool false)), none, false⟩]
def ac10_G3 : List AOper :=
  [⟨(some 52), .call (.func 15) [], (some (51, true)), false⟩,
    ⟨(some 53), .pick (.tmp 51) (.tmp 52) (.const (.bool false)), none, false⟩]
/-- patchbay/patchbaylaw20.ControlWalks -/
def ac10 : AC :=
  .seq (.region false [⟨(some 4), .move (.const (.bool false)), none, false⟩])
    (.seq (.seq (.region false (⟨(some 7), .move (.tmp 0), none, false⟩ :: ⟨(some 8), .call (.func 14) [(.tmp 7), (.const (.int .i64 60))], none, false⟩ :: ⟨(some 9), .un .not (.tmp 8), none, false⟩ :: ⟨(some 10), .move (.tmp 9), none, false⟩ :: (ac10_G1 ++ [])))
        (.cond (.tmp 14)
          (.seq (.region false [⟨(some 15), .call (.func 15) [], none, false⟩,
                ⟨(some 4), .move (.tmp 15), none, false⟩])
            (.ret))
          (.skip)))
      (.seq (.region false [⟨(some 16), .move (.tmp 1), none, false⟩,
            ⟨(some 17), .build [(.slice none 0 0), (.int .i64 0), (.slice none 0 0), (.slice none 0 0)] [(0, 1, (.tmp 16))], none, false⟩,
            ⟨(some 18), .box true 66 (.tmp 17), none, false⟩,
            ⟨(some 19), .move (.tmp 1), none, false⟩,
            ⟨(some 20), .build [(.slice none 0 0), (.int .i64 0), (.slice none 0 0), (.slice none 0 0)] [(0, 1, (.tmp 19))], none, false⟩,
            ⟨(some 21), .box true 66 (.tmp 20), none, false⟩,
            ⟨(some 5), .move (.tmp 18), none, false⟩,
            ⟨(some 6), .move (.tmp 21), none, false⟩])
        (.seq (.region false [⟨(some 22), .move (.tmp 0), none, false⟩,
              ⟨(some 23), .move (.tmp 5), none, false⟩,
              ⟨(some 24), .mkFunc (.func 40) [(.tmp 23)] [], none, false⟩,
              ⟨(some 25), .move (.tmp 5), none, false⟩,
              ⟨(some 26), .mkFunc (.func 41) [(.tmp 25)] [], none, false⟩,
              ⟨(some 27), .call (.func 39) [(.tmp 22), (.tmp 24), (.tmp 26)], none, false⟩])
          (.seq (.region false [⟨(some 28), .move (.tmp 6), none, false⟩,
                ⟨(some 29), .move (.tmp 0), none, false⟩,
                ⟨(some 30), .call (.func 42) [(.tmp 28), (.tmp 29)], none, false⟩])
            (.seq (.region true (⟨(some 31), .move (.tmp 5), none, false⟩ :: ⟨(some 32), .nilCheck (.tmp 31), none, false⟩ :: ⟨(some 33), .faddr 2 1 false (.tmp 32), none, false⟩ :: ⟨(some 34), .load 1 false (.tmp 33), none, false⟩ :: ⟨(some 35), .move (.tmp 6), none, false⟩ :: ⟨(some 36), .nilCheck (.tmp 35), none, false⟩ :: ⟨(some 37), .faddr 2 1 false (.tmp 36), none, false⟩ :: ⟨(some 38), .load 1 false (.tmp 37), none, false⟩ :: ⟨(some 39), .call (.func 24) [(.tmp 34), (.tmp 38)], none, false⟩ :: ⟨(some 40), .move (.tmp 39), none, false⟩ :: (ac10_G2 ++ (⟨(some 51), .move (.tmp 50), none, false⟩ :: (ac10_G3 ++ [⟨(some 4), .move (.tmp 53), none, false⟩])))))
              (.ret))))))
theorem text10 : FnText Try.prog 10 [18, 21] 54 2 ac10 [(4, none)] :=
  ⟨Try.call10, follows, Try.f10, _, Try.func10, rfl, rfl, by decide, by kernel_rfl, by kernel_rfl⟩

def ac73_L1 : AC :=
  .seq (.region false [⟨(some 9), .bin .lss 3 (.tmp 8) (.tmp 7), none, false⟩])
    (.seq (.cond (.tmp 9)
        (.skip)
        (.exit 0))
      (.seq (.block 1 (.seq (.region false [⟨(some 10), .iaddr 5 (.tmp 6) (.tmp 8), none, false⟩,
                ⟨(some 11), .load 5 true (.tmp 10), none, false⟩,
                ⟨(some 5), .alloc true 40 (.agg [(.int .i64 0), (.int .i64 0), (.slice none 0 0), (.slice none 0 0), (.slice none 0 0)].toArray), none, false⟩,
                ⟨none, .store 5 (.tmp 5) (.tmp 11), none, false⟩])
            (.regionU [⟨(some 12), .load 2 true (.tmp 2), none, true⟩,
                ⟨(some 13), .load 5 true (.tmp 5), none, false⟩,
                ⟨(some 14), .call (.func 83) [(.tmp 13)], none, false⟩,
                ⟨(some 15), .load 2 true (.tmp 2), none, true⟩,
                ⟨(some 16), .invoke (.tmp 14) "patchbay/control.branch" [(.tmp 15)], none, false⟩,
                ⟨(some 17), .call (.func 73) [(.tmp 12), (.tmp 16)], none, false⟩])))
        (.region false [⟨(some 18), .bin .add 3 (.tmp 8) (.const (.int .i64 1)), none, false⟩,
            ⟨(some 8), .move (.tmp 18), none, false⟩])))
/-- (patchbay/control.walker).run -/
def ac73 : AC :=
  .seq (.region false [⟨(some 2), .box false 113 (.tmp 0), none, false⟩])
    (.seq (.region false [⟨(some 6), .move (.tmp 1), none, false⟩,
          ⟨(some 7), .bi .len [28].toArray 3 [(.tmp 6)], none, false⟩,
          ⟨(some 8), .move (.const (.int .i64 0)), none, false⟩])
      (.block 0 (.loop ac73_L1)))
theorem text73 : FnText Try.prog 73 [5, 1000000, 1000001] 19 2 ac73 [] :=
  ⟨Try.call73, follows, Try.f73, _, Try.func73, rfl, rfl, by decide, by kernel_rfl, by kernel_rfl⟩


/-- patchbay/control.wrap -/
def ac83 : AC :=
  .seq (.region false [⟨(some 1), .box false 40 (.tmp 0), none, false⟩,
        ⟨(some 2), .move (.const .nilIface), none, false⟩])
    (.seq (.seq (.region false [⟨(some 3), .faddr 0 1 false (.tmp 1), none, false⟩,
            ⟨(some 4), .load 1 false (.tmp 3), none, false⟩])
        (.block 0 (.seq (.region false [⟨(some 6), .bin .eql 3 (.tmp 4) (.const (.int .i64 1)), none, false⟩,
                ⟨(some 5), .move (.tmp 6), none, false⟩])
            (.cond (.tmp 5)
              (.seq (.region false [⟨(some 7), .load 5 true (.tmp 1), none, false⟩,
                    ⟨(some 8), .build [(.int .i64 0), (.int .i64 0), (.slice none 0 0), (.slice none 0 0), (.slice none 0 0)] [(0, 5, (.tmp 7))], none, false⟩,
                    ⟨(some 9), .mkIface 135 (.tmp 8), none, false⟩,
                    ⟨(some 2), .move (.tmp 9), none, false⟩])
                (.ret))
              (.seq (.region false [⟨(some 11), .bin .eql 3 (.tmp 4) (.const (.int .i64 3)), none, false⟩,
                    ⟨(some 10), .move (.tmp 11), none, false⟩])
                (.cond (.tmp 10)
                  (.seq (.region false [⟨(some 12), .load 5 true (.tmp 1), none, false⟩,
                        ⟨(some 13), .build [(.int .i64 0), (.int .i64 0), (.slice none 0 0), (.slice none 0 0), (.slice none 0 0)] [(0, 5, (.tmp 12))], none, false⟩,
                        ⟨(some 14), .mkIface 136 (.tmp 13), none, false⟩,
                        ⟨(some 2), .move (.tmp 14), none, false⟩])
                    (.ret))
                  (.seq (.region false [⟨(some 16), .bin .eql 3 (.tmp 4) (.const (.int .i64 2)), none, false⟩,
                        ⟨(some 15), .move (.tmp 16), none, false⟩])
                    (.cond (.tmp 15)
                      (.seq (.region false [⟨(some 17), .load 5 true (.tmp 1), none, false⟩,
                            ⟨(some 18), .build [(.int .i64 0), (.int .i64 0), (.slice none 0 0), (.slice none 0 0), (.slice none 0 0)] [(0, 5, (.tmp 17))], none, false⟩,
                            ⟨(some 19), .mkIface 137 (.tmp 18), none, false⟩,
                            ⟨(some 2), .move (.tmp 19), none, false⟩])
                        (.ret))
                      (.skip)))))))))
      (.seq (.region false [⟨(some 20), .build [] [], none, false⟩,
            ⟨(some 21), .mkIface 139 (.tmp 20), none, false⟩,
            ⟨(some 2), .move (.tmp 21), none, false⟩])
        (.ret)))
theorem text83 : FnText Try.prog 83 [] 22 1 ac83 [(2, none)] :=
  ⟨Try.call83, follows, Try.f83, _, Try.func83, rfl, rfl, by decide, by kernel_rfl, by kernel_rfl⟩


/-- (patchbay/control.applyNode).branch -/
def ac117 : AC :=
  .seq (.region false [⟨(some 2), .box false 135 (.tmp 0), none, false⟩,
        ⟨(some 3), .box false 113 (.tmp 1), none, false⟩,
        ⟨(some 4), .move (.const (.slice none 0 0)), none, false⟩])
    (.seq (.region false [⟨(some 5), .faddr 0 1 false (.tmp 3), none, false⟩,
          ⟨(some 6), .load 1 false (.tmp 5), none, false⟩,
          ⟨(some 7), .faddr 0 5 true (.tmp 2), none, false⟩,
          ⟨(some 8), .faddr 1 1 false (.tmp 7), none, false⟩,
          ⟨(some 9), .load 1 false (.tmp 8), none, false⟩,
          ⟨(some 10), .call (.tmp 6) [(.tmp 9)], none, false⟩])
      (.seq (.region false [⟨(some 4), .move (.const (.slice none 0 0)), none, false⟩])
        (.ret)))
theorem text117 : FnText Try.prog 117 [] 11 2 ac117 [(4, none)] :=
  ⟨Try.call117, follows, Try.f117, _, Try.func117, rfl, rfl, by decide, by kernel_rfl, by kernel_rfl⟩


/-- (patchbay/control.hitNode).branch -/
def ac118 : AC :=
  .seq (.region false [⟨(some 2), .box false 136 (.tmp 0), none, false⟩,
        ⟨(some 3), .box false 113 (.tmp 1), none, false⟩,
        ⟨(some 4), .move (.const (.slice none 0 0)), none, false⟩])
    (.seq (.seq (.region false [⟨(some 5), .faddr 0 1 false (.tmp 3), none, false⟩,
            ⟨(some 6), .load 1 false (.tmp 5), none, false⟩,
            ⟨(some 7), .faddr 0 5 true (.tmp 2), none, false⟩,
            ⟨(some 8), .faddr 1 1 false (.tmp 7), none, false⟩,
            ⟨(some 9), .load 1 false (.tmp 8), none, false⟩,
            ⟨(some 10), .call (.tmp 6) [(.tmp 9)], none, false⟩])
        (.cond (.tmp 10)
          (.seq (.region false [⟨(some 11), .faddr 0 5 true (.tmp 2), none, false⟩,
                ⟨(some 12), .faddr 3 1 false (.tmp 11), none, false⟩,
                ⟨(some 13), .load 1 false (.tmp 12), none, false⟩,
                ⟨(some 4), .move (.tmp 13), none, false⟩])
            (.ret))
          (.skip)))
      (.seq (.region false [⟨(some 14), .faddr 0 5 true (.tmp 2), none, false⟩,
            ⟨(some 15), .faddr 4 1 false (.tmp 14), none, false⟩,
            ⟨(some 16), .load 1 false (.tmp 15), none, false⟩,
            ⟨(some 4), .move (.tmp 16), none, false⟩])
        (.ret)))
theorem text118 : FnText Try.prog 118 [] 17 2 ac118 [(4, none)] :=
  ⟨Try.call118, follows, Try.f118, _, Try.func118, rfl, rfl, by decide, by kernel_rfl, by kernel_rfl⟩


/-- (patchbay/control.ifNode).branch -/
def ac119 : AC :=
  .seq (.region false [⟨(some 2), .box false 137 (.tmp 0), none, false⟩,
        ⟨(some 3), .box false 113 (.tmp 1), none, false⟩,
        ⟨(some 4), .move (.const (.slice none 0 0)), none, false⟩])
    (.seq (.seq (.regionT [⟨(some 5), .faddr 1 1 false (.tmp 3), none, true⟩,
            ⟨(some 6), .load 1 false (.tmp 5), none, true⟩,
            ⟨(some 7), .faddr 0 5 true (.tmp 2), none, false⟩,
            ⟨(some 8), .faddr 2 1 false (.tmp 7), none, false⟩,
            ⟨(some 9), .load 1 false (.tmp 8), none, false⟩,
            ⟨(some 10), .append 38 106 3 24 (.const (.slice none 0 0)) (.tmp 9), none, false⟩] ⟨(some 11), .call (.tmp 6) [(.tmp 10)], none, false⟩)
        (.cond (.tmp 11)
          (.seq (.region false [⟨(some 12), .faddr 0 5 true (.tmp 2), none, false⟩,
                ⟨(some 13), .faddr 3 1 false (.tmp 12), none, false⟩,
                ⟨(some 14), .load 1 false (.tmp 13), none, false⟩,
                ⟨(some 4), .move (.tmp 14), none, false⟩])
            (.ret))
          (.skip)))
      (.seq (.region false [⟨(some 15), .faddr 0 5 true (.tmp 2), none, false⟩,
            ⟨(some 16), .faddr 4 1 false (.tmp 15), none, false⟩,
            ⟨(some 17), .load 1 false (.tmp 16), none, false⟩,
            ⟨(some 4), .move (.tmp 17), none, false⟩])
        (.ret)))
theorem text119 : FnText Try.prog 119 [] 18 2 ac119 [(4, none)] :=
  ⟨Try.call119, follows, Try.f119, _, Try.func119, rfl, rfl, by decide, by kernel_rfl, by kernel_rfl⟩


/-- (patchbay/control.otherNode).branch -/
def ac120 : AC :=
  .seq (.region false [⟨(some 2), .box false 139 (.tmp 0), none, false⟩,
        ⟨(some 3), .box false 113 (.tmp 1), none, false⟩,
        ⟨(some 4), .move (.const (.slice none 0 0)), none, false⟩])
    (.seq (.region false [⟨(some 4), .move (.const (.slice none 0 0)), none, false⟩])
      (.ret))
theorem text120 : FnText Try.prog 120 [] 5 2 ac120 [(4, none)] :=
  ⟨Try.call120, follows, Try.f120, _, Try.func120, rfl, rfl, by decide, by kernel_rfl, by kernel_rfl⟩


/-- patchbay/control.Node -/
def ac18 : AC :=
  .seq (.region false [⟨(some 3), .box false 3 (.tmp 1), none, false⟩,
        ⟨(some 4), .alloc true 40 (.agg [(.int .i64 0), (.int .i64 0), (.slice none 0 0), (.slice none 0 0), (.slice none 0 0)].toArray), none, false⟩,
        ⟨(some 5), .move (.const (.bool false)), none, false⟩])
    (.seq (.region false [⟨(some 6), .alloc true 40 (.agg [(.int .i64 0), (.int .i64 0), (.slice none 0 0), (.slice none 0 0), (.slice none 0 0)].toArray), none, false⟩])
      (.seq (.region false [⟨(some 7), .alloc true 3 (.int .i64 0), none, false⟩,
            ⟨none, .store 1 (.tmp 7) (.const (.int .i64 0)), none, false⟩])
        (.seq (.region false [⟨(some 9), .move (.tmp 0), none, false⟩,
              ⟨(some 10), .mkFunc (.func 54) [] [(.tmp 7), (.tmp 3), (.tmp 6)], none, false⟩,
              ⟨(some 11), .call (.func 48) [(.tmp 9), (.tmp 10)], none, false⟩,
              ⟨(some 8), .move (.tmp 11), none, false⟩])
          (.seq (.region false [⟨(some 12), .load 5 true (.tmp 6), none, false⟩,
                ⟨(some 13), .move (.tmp 8), none, false⟩,
                ⟨(some 14), .un .not (.tmp 13), none, false⟩,
                ⟨none, .store 5 (.tmp 4) (.tmp 12), none, false⟩,
                ⟨(some 5), .move (.tmp 14), none, false⟩])
            (.ret)))))
theorem text18 : FnText Try.prog 18 [4, 6, 7] 15 2 ac18 [(4, some (5, true)), (5, none)] :=
  ⟨Try.call18, follows, Try.f18, _, Try.func18, rfl, rfl, by decide, by kernel_rfl, by kernel_rfl⟩


/-- patchbay/control.Node$1 -/
def ac54 : AC :=
  .seq (.region false [⟨(some 4), .box false 40 (.tmp 0), none, false⟩,
        ⟨(some 5), .move (.const (.bool false)), none, false⟩])
    (.seq (.seq (.region false [⟨(some 6), .load 1 false (.tmp 1), none, false⟩,
            ⟨(some 7), .load 1 false (.tmp 2), none, false⟩,
            ⟨(some 8), .bin .eql 3 (.tmp 6) (.tmp 7), none, false⟩])
        (.cond (.tmp 8)
          (.seq (.region false [⟨(some 9), .load 5 true (.tmp 4), none, false⟩,
                ⟨(some 10), .call (.func 55) [(.tmp 9)], none, false⟩,
                ⟨none, .store 5 (.tmp 3) (.tmp 10), none, false⟩])
            (.seq (.region false [⟨(some 5), .move (.const (.bool false)), none, false⟩])
              (.ret)))
          (.skip)))
      (.seq (.region false [⟨(some 11), .load 1 false (.tmp 1), none, false⟩,
            ⟨(some 12), .bin .add 3 (.tmp 11) (.const (.int .i64 1)), none, false⟩,
            ⟨none, .store 1 (.tmp 1) (.tmp 12), none, false⟩])
        (.seq (.region false [⟨(some 5), .move (.const (.bool true)), none, false⟩])
          (.ret))))
theorem text54 : FnText Try.prog 54 [] 13 4 ac54 [(5, none)] :=
  ⟨Try.call54, follows, Try.f54, _, Try.func54, rfl, rfl, by decide, by kernel_rfl, by kernel_rfl⟩


/-- patchbay/control.clone -/
def ac55 : AC :=
  .seq (.region false [⟨(some 1), .box true 40 (.tmp 0), none, false⟩,
        ⟨(some 2), .alloc true 40 (.agg [(.int .i64 0), (.int .i64 0), (.slice none 0 0), (.slice none 0 0), (.slice none 0 0)].toArray), none, false⟩])
    (.seq (.region false [⟨(some 3), .faddr 2 1 false (.tmp 1), none, false⟩,
          ⟨(some 4), .load 1 false (.tmp 3), none, false⟩,
          ⟨(some 5), .append 38 106 3 24 (.const (.slice none 0 0)) (.tmp 4), none, false⟩,
          ⟨(some 6), .faddr 2 1 false (.tmp 1), none, false⟩,
          ⟨none, .store 1 (.tmp 6) (.tmp 5), none, false⟩])
      (.seq (.region true [⟨(some 7), .faddr 3 1 false (.tmp 1), none, false⟩,
            ⟨(some 8), .load 1 false (.tmp 7), none, false⟩,
            ⟨(some 9), .call (.func 78) [(.tmp 8)], none, false⟩,
            ⟨(some 10), .faddr 4 1 false (.tmp 1), none, false⟩,
            ⟨(some 11), .load 1 false (.tmp 10), none, false⟩,
            ⟨(some 12), .call (.func 78) [(.tmp 11)], none, false⟩,
            ⟨(some 13), .faddr 3 1 false (.tmp 1), none, false⟩,
            ⟨none, .store 1 (.tmp 13) (.tmp 9), none, false⟩,
            ⟨(some 14), .faddr 4 1 false (.tmp 1), none, false⟩,
            ⟨none, .store 1 (.tmp 14) (.tmp 12), none, false⟩])
        (.seq (.region false [⟨(some 15), .load 5 true (.tmp 1), none, false⟩,
              ⟨none, .store 5 (.tmp 2) (.tmp 15), none, false⟩])
          (.ret))))
theorem text55 : FnText Try.prog 55 [1, 2] 16 1 ac55 [(2, some (5, true))] :=
  ⟨Try.call55, follows, Try.f55, _, Try.func55, rfl, rfl, by decide, by kernel_rfl, by kernel_rfl⟩

def ac78_L1 : AC :=
  .seq (.region false [⟨(some 9), .bin .lss 3 (.tmp 8) (.tmp 7), none, false⟩])
    (.seq (.cond (.tmp 9)
        (.skip)
        (.exit 0))
      (.seq (.block 1 (.seq (.region false [⟨(some 10), .iaddr 5 (.tmp 6) (.tmp 8), none, false⟩,
                ⟨(some 11), .load 5 true (.tmp 10), none, false⟩,
                ⟨(some 5), .alloc true 40 (.agg [(.int .i64 0), (.int .i64 0), (.slice none 0 0), (.slice none 0 0), (.slice none 0 0)].toArray), none, false⟩,
                ⟨none, .store 5 (.tmp 5) (.tmp 11), none, false⟩])
            (.region false [⟨(some 12), .move (.tmp 3), none, false⟩,
                ⟨(some 13), .load 5 true (.tmp 5), none, false⟩,
                ⟨(some 14), .call (.func 55) [(.tmp 13)], none, false⟩,
                ⟨(some 15), .bslice false 40 5 false [(.tmp 14)], none, false⟩,
                ⟨(some 16), .append 28 40 5 88 (.tmp 12) (.tmp 15), none, false⟩,
                ⟨(some 3), .move (.tmp 16), none, false⟩])))
        (.region false [⟨(some 17), .bin .add 3 (.tmp 8) (.const (.int .i64 1)), none, false⟩,
            ⟨(some 8), .move (.tmp 17), none, false⟩])))
/-- patchbay/control.cloneAll -/
def ac78 : AC :=
  .seq (.region false [⟨(some 2), .move (.const (.slice none 0 0)), none, false⟩])
    (.seq (.region false [⟨(some 3), .move (.const (.slice none 0 0)), none, false⟩])
      (.seq (.seq (.region false [⟨(some 6), .move (.tmp 0), none, false⟩,
              ⟨(some 7), .bi .len [28].toArray 3 [(.tmp 6)], none, false⟩,
              ⟨(some 8), .move (.const (.int .i64 0)), none, false⟩])
          (.block 0 (.loop ac78_L1)))
        (.seq (.region false [⟨(some 18), .move (.tmp 3), none, false⟩,
              ⟨(some 2), .move (.tmp 18), none, false⟩])
          (.ret))))
theorem text78 : FnText Try.prog 78 [5] 19 1 ac78 [(2, none)] :=
  ⟨Try.call78, follows, Try.f78, _, Try.func78, rfl, rfl, by decide, by kernel_rfl, by kernel_rfl⟩

def ac48_G1 : List AOper :=
  [⟨(some 18), .faddr 3 1 false (.tmp 6), (some (17, false)), false⟩,
    ⟨(some 19), .load 1 false (.tmp 18), (some (17, false)), false⟩,
    ⟨(some 20), .move (.tmp 1), (some (17, false)), false⟩,
    ⟨(some 21), .call (.func 48) [(.tmp 19), (.tmp 20)], (some (17, false)), false⟩,
    ⟨(some 22), .un .not (.tmp 21), (some (17, false)), false⟩,
    ⟨(some 23), .pick (.tmp 17) (.const (.bool true)) (.tmp 22), none, false⟩]
def ac48_G2 : List AOper :=
  [⟨(some 25), .faddr 4 1 false (.tmp 6), (some (24, false)), false⟩,
    ⟨(some 26), .load 1 false (.tmp 25), (some (24, false)), false⟩,
    ⟨(some 27), .move (.tmp 1), (some (24, false)), false⟩,
    ⟨(some 28), .call (.func 48) [(.tmp 26), (.tmp 27)], (some (24, false)), false⟩,
    ⟨(some 29), .un .not (.tmp 28), (some (24, false)), false⟩,
    ⟨(some 30), .pick (.tmp 24) (.const (.bool true)) (.tmp 29), none, false⟩]
def ac48_L1 : AC :=
  .seq (.region false [⟨(some 10), .bin .lss 3 (.tmp 9) (.tmp 8), none, false⟩])
    (.seq (.cond (.tmp 10)
        (.skip)
        (.exit 0))
      (.seq (.block 1 (.seq (.region false [⟨(some 11), .iaddr 5 (.tmp 7) (.tmp 9), none, false⟩,
                ⟨(some 12), .load 5 true (.tmp 11), none, false⟩,
                ⟨(some 6), .alloc true 40 (.agg [(.int .i64 0), (.int .i64 0), (.slice none 0 0), (.slice none 0 0), (.slice none 0 0)].toArray), none, false⟩,
                ⟨none, .store 5 (.tmp 6) (.tmp 12), none, false⟩])
            (.seq (.region false (⟨(some 13), .move (.tmp 1), none, false⟩ :: ⟨(some 14), .load 5 true (.tmp 6), none, false⟩ :: ⟨(some 15), .call (.tmp 13) [(.tmp 14)], none, false⟩ :: ⟨(some 16), .un .not (.tmp 15), none, false⟩ :: ⟨(some 17), .move (.tmp 16), none, false⟩ :: (ac48_G1 ++ (⟨(some 24), .move (.tmp 23), none, false⟩ :: (ac48_G2 ++ [])))))
              (.cond (.tmp 30)
                (.seq (.region false [⟨(some 4), .move (.const (.bool false)), none, false⟩])
                  (.ret))
                (.skip)))))
        (.region false [⟨(some 31), .bin .add 3 (.tmp 9) (.const (.int .i64 1)), none, false⟩,
            ⟨(some 9), .move (.tmp 31), none, false⟩])))
/-- patchbay/control.preorder -/
def ac48 : AC :=
  .seq (.region false [⟨(some 4), .move (.const (.bool false)), none, false⟩])
    (.seq (.seq (.region false [⟨(some 7), .move (.tmp 0), none, false⟩,
            ⟨(some 8), .bi .len [28].toArray 3 [(.tmp 7)], none, false⟩,
            ⟨(some 9), .move (.const (.int .i64 0)), none, false⟩])
        (.block 0 (.loop ac48_L1)))
      (.seq (.region false [⟨(some 4), .move (.const (.bool true)), none, false⟩])
        (.ret)))
theorem text48 : FnText Try.prog 48 [6] 32 2 ac48 [(4, none)] :=
  ⟨Try.call48, follows, Try.f48, _, Try.func48, rfl, rfl, by decide, by kernel_rfl, by kernel_rfl⟩


/-- patchbay/control.Check -/
def ac16 : AC :=
  .seq (.region false [⟨(some 1), .box false 31 (.tmp 0), none, false⟩,
        ⟨(some 2), .move (.const (.int .i64 0)), none, false⟩,
        ⟨(some 3), .alloc true 35 (.int .i64 0), none, false⟩])
    (.seq (.seq (.region false [⟨(some 6), .faddr 7 1 false (.tmp 1), none, false⟩,
            ⟨(some 7), .load 1 false (.tmp 6), none, false⟩,
            ⟨(some 8), .call (.func 20) [(.tmp 7)], none, false⟩,
            ⟨(some 9), .bin .gtr 3 (.tmp 8) (.const (.int .i64 24)), none, false⟩])
        (.cond (.tmp 9)
          (.seq (.region false [⟨(some 2), .move (.const (.int .i64 (-1))), none, false⟩,
                ⟨none, .store 1 (.tmp 3) (.const (.int .i64 12)), none, false⟩])
            (.ret))
          (.skip)))
      (.seq (.seq (.region false [⟨(some 10), .faddr 7 1 false (.tmp 1), none, false⟩,
              ⟨(some 11), .load 1 false (.tmp 10), none, false⟩,
              ⟨(some 12), .call (.func 22) [(.tmp 11)], none, false⟩,
              ⟨(some 13), .bin .gtr 3 (.tmp 12) (.const (.int .i64 6)), none, false⟩])
          (.cond (.tmp 13)
            (.seq (.region false [⟨(some 2), .move (.const (.int .i64 (-1))), none, false⟩,
                  ⟨none, .store 1 (.tmp 3) (.const (.int .i64 14)), none, false⟩])
              (.ret))
            (.skip)))
        (.seq (.region false [⟨(some 4), .alloc true 3 (.int .i64 0), none, false⟩,
              ⟨none, .store 1 (.tmp 4) (.const (.int .i64 0)), none, false⟩])
          (.seq (.region false [⟨(some 5), .alloc true 29 (.slice none 0 0), none, false⟩])
            (.seq (.region false [⟨(some 14), .faddr 7 1 false (.tmp 1), none, false⟩,
                  ⟨(some 15), .load 1 false (.tmp 14), none, false⟩,
                  ⟨(some 16), .mkFunc (.func 49) [] [(.tmp 1), (.tmp 5), (.tmp 3), (.tmp 4)], none, false⟩,
                  ⟨(some 17), .call (.func 48) [(.tmp 15), (.tmp 16)], none, false⟩])
              (.seq (.seq (.region false [⟨(some 18), .load 1 false (.tmp 3), none, false⟩,
                      ⟨(some 19), .bin .neq 35 (.tmp 18) (.const (.int .i64 0)), none, false⟩])
                  (.cond (.tmp 19)
                    (.seq (.region true [⟨(some 20), .load 1 false (.tmp 4), none, false⟩,
                          ⟨(some 21), .load 1 false (.tmp 3), none, false⟩,
                          ⟨(some 2), .move (.tmp 20), none, false⟩,
                          ⟨none, .store 1 (.tmp 3) (.tmp 21), none, false⟩])
                      (.ret))
                    (.skip)))
                (.seq (.region false [⟨(some 2), .move (.const (.int .i64 0)), none, false⟩,
                      ⟨none, .store 1 (.tmp 3) (.const (.int .i64 0)), none, false⟩])
                  (.ret))))))))
theorem text16 : FnText Try.prog 16 [3, 4, 5] 22 1 ac16 [(2, none), (3, some (1, false))] :=
  ⟨Try.call16, follows, Try.f16, _, Try.func16, rfl, rfl, by decide, by kernel_rfl, by kernel_rfl⟩


/-- patchbay/control.Count -/
def ac20 : AC :=
  .seq (.region false [⟨(some 2), .move (.const (.int .i64 0)), none, false⟩])
    (.seq (.region false [⟨(some 3), .alloc true 3 (.int .i64 0), none, false⟩,
          ⟨none, .store 1 (.tmp 3) (.const (.int .i64 0)), none, false⟩])
      (.seq (.region false [⟨(some 4), .move (.tmp 0), none, false⟩,
            ⟨(some 5), .mkFunc (.func 56) [] [(.tmp 3)], none, false⟩,
            ⟨(some 6), .call (.func 48) [(.tmp 4), (.tmp 5)], none, false⟩])
        (.seq (.region false [⟨(some 7), .load 1 false (.tmp 3), none, false⟩,
              ⟨(some 2), .move (.tmp 7), none, false⟩])
          (.ret))))
theorem text20 : FnText Try.prog 20 [3] 8 1 ac20 [(2, none)] :=
  ⟨Try.call20, follows, Try.f20, _, Try.func20, rfl, rfl, by decide, by kernel_rfl, by kernel_rfl⟩


/-- patchbay/control.Count$1 -/
def ac56 : AC :=
  .seq (.region false [⟨(some 2), .box false 40 (.tmp 0), none, false⟩,
        ⟨(some 3), .move (.const (.bool false)), none, false⟩])
    (.seq (.region false [⟨(some 4), .load 1 false (.tmp 1), none, false⟩,
          ⟨(some 5), .bin .add 3 (.tmp 4) (.const (.int .i64 1)), none, false⟩,
          ⟨none, .store 1 (.tmp 1) (.tmp 5), none, false⟩])
      (.seq (.region false [⟨(some 3), .move (.const (.bool true)), none, false⟩])
        (.ret)))
theorem text56 : FnText Try.prog 56 [] 6 2 ac56 [(3, none)] :=
  ⟨Try.call56, follows, Try.f56, _, Try.func56, rfl, rfl, by decide, by kernel_rfl, by kernel_rfl⟩

def ac22_L1 : AC :=
  .seq (.region false [⟨(some 12), .bin .lss 3 (.tmp 11) (.tmp 10), none, false⟩])
    (.seq (.cond (.tmp 12)
        (.skip)
        (.exit 0))
      (.seq (.block 1 (.seq (.region false [⟨(some 13), .iaddr 5 (.tmp 9) (.tmp 11), none, false⟩,
                ⟨(some 14), .load 5 true (.tmp 13), none, false⟩,
                ⟨(some 5), .alloc true 40 (.agg [(.int .i64 0), (.int .i64 0), (.slice none 0 0), (.slice none 0 0), (.slice none 0 0)].toArray), none, false⟩,
                ⟨none, .store 5 (.tmp 5) (.tmp 14), none, false⟩])
            (.region true [⟨(some 15), .move (.tmp 3), none, false⟩,
                ⟨(some 16), .faddr 3 1 false (.tmp 5), none, false⟩,
                ⟨(some 17), .load 1 false (.tmp 16), none, false⟩,
                ⟨(some 18), .call (.func 22) [(.tmp 17)], none, false⟩,
                ⟨(some 19), .faddr 4 1 false (.tmp 5), none, false⟩,
                ⟨(some 20), .load 1 false (.tmp 19), none, false⟩,
                ⟨(some 21), .call (.func 22) [(.tmp 20)], none, false⟩,
                ⟨(some 22), .bi .max [3, 3, 3].toArray 3 [(.tmp 15), (.tmp 18), (.tmp 21)], none, false⟩,
                ⟨(some 3), .move (.tmp 22), none, false⟩])))
        (.region false [⟨(some 23), .bin .add 3 (.tmp 11) (.const (.int .i64 1)), none, false⟩,
            ⟨(some 11), .move (.tmp 23), none, false⟩])))
/-- patchbay/control.Nesting -/
def ac22 : AC :=
  .seq (.region false [⟨(some 2), .move (.const (.int .i64 0)), none, false⟩])
    (.seq (.seq (.region false [⟨(some 6), .move (.tmp 0), none, false⟩,
            ⟨(some 7), .bi .len [28].toArray 3 [(.tmp 6)], none, false⟩,
            ⟨(some 8), .bin .eql 3 (.tmp 7) (.const (.int .i64 0)), none, false⟩])
        (.cond (.tmp 8)
          (.seq (.region false [⟨(some 2), .move (.const (.int .i64 0)), none, false⟩])
            (.ret))
          (.skip)))
      (.seq (.region false [⟨(some 3), .move (.const (.int .i64 0)), none, false⟩])
        (.seq (.seq (.region false [⟨(some 9), .move (.tmp 0), none, false⟩,
                ⟨(some 10), .bi .len [28].toArray 3 [(.tmp 9)], none, false⟩,
                ⟨(some 11), .move (.const (.int .i64 0)), none, false⟩])
            (.block 0 (.loop ac22_L1)))
          (.seq (.region false [⟨(some 24), .move (.tmp 3), none, false⟩,
                ⟨(some 25), .bin .add 3 (.tmp 24) (.const (.int .i64 1)), none, false⟩,
                ⟨(some 2), .move (.tmp 25), none, false⟩])
            (.ret)))))
theorem text22 : FnText Try.prog 22 [5] 26 1 ac22 [(2, none)] :=
  ⟨Try.call22, follows, Try.f22, _, Try.func22, rfl, rfl, by decide, by kernel_rfl, by kernel_rfl⟩


/-- patchbay/control.Check$1 -/
def ac49 : AC :=
  .seq (.region false [⟨(some 5), .box false 40 (.tmp 0), none, false⟩,
        ⟨(some 6), .move (.const (.bool false)), none, false⟩])
    (.seq (.seq (.region false [⟨(some 7), .load 9 true (.tmp 1), none, false⟩,
            ⟨(some 8), .load 5 true (.tmp 5), none, false⟩,
            ⟨(some 9), .load 1 false (.tmp 2), none, false⟩,
            ⟨(some 10), .call (.func 50) [(.tmp 7), (.tmp 8), (.tmp 9)], none, false⟩,
            ⟨none, .store 1 (.tmp 3) (.tmp 10), none, false⟩])
        (.seq (.region false [⟨(some 11), .load 1 false (.tmp 3), none, false⟩,
              ⟨(some 12), .bin .neq 35 (.tmp 11) (.const (.int .i64 0)), none, false⟩])
          (.cond (.tmp 12)
            (.seq (.region false [⟨(some 6), .move (.const (.bool false)), none, false⟩])
              (.ret))
            (.skip))))
      (.seq (.seq (.region false [⟨(some 13), .load 5 true (.tmp 5), none, false⟩,
              ⟨(some 14), .call (.func 51) [(.tmp 13)], none, false⟩])
          (.cond (.tmp 14)
            (.region false [⟨(some 15), .load 1 false (.tmp 2), none, false⟩,
                ⟨(some 16), .faddr 1 1 false (.tmp 5), none, false⟩,
                ⟨(some 17), .load 1 false (.tmp 16), none, false⟩,
                ⟨(some 18), .bslice false 3 1 false [(.tmp 17)], none, false⟩,
                ⟨(some 19), .append 29 3 1 8 (.tmp 15) (.tmp 18), none, false⟩,
                ⟨none, .store 1 (.tmp 2) (.tmp 19), none, false⟩])
            (.skip)))
        (.seq (.region false [⟨(some 20), .load 1 false (.tmp 4), none, false⟩,
              ⟨(some 21), .bin .add 3 (.tmp 20) (.const (.int .i64 1)), none, false⟩,
              ⟨none, .store 1 (.tmp 4) (.tmp 21), none, false⟩])
          (.seq (.region false [⟨(some 6), .move (.const (.bool true)), none, false⟩])
            (.ret)))))
theorem text49 : FnText Try.prog 49 [] 22 5 ac49 [(6, none)] :=
  ⟨Try.call49, follows, Try.f49, _, Try.func49, rfl, rfl, by decide, by kernel_rfl, by kernel_rfl⟩

def ac50_G1 : List AOper :=
  [⟨(some 20), .faddr 1 1 false (.tmp 4), (some (19, false)), false⟩,
    ⟨(some 21), .load 1 false (.tmp 20), (some (19, false)), false⟩,
    ⟨(some 22), .faddr 5 1 false (.tmp 3), (some (19, false)), false⟩,
    ⟨(some 23), .load 1 false (.tmp 22), (some (19, false)), false⟩,
    ⟨(some 24), .bi .len [26].toArray 3 [(.tmp 23)], (some (19, false)), false⟩,
    ⟨(some 25), .bin .geq 3 (.tmp 21) (.tmp 24), (some (19, false)), false⟩,
    ⟨(some 26), .pick (.tmp 19) (.const (.bool true)) (.tmp 25), none, false⟩]
def ac50_L1 : AC :=
  .seq (.region false [⟨(some 30), .bin .lss 3 (.tmp 29) (.tmp 28), none, false⟩])
    (.seq (.cond (.tmp 30)
        (.skip)
        (.exit 1))
      (.seq (.block 2 (.seq (.region false [⟨(some 31), .iaddr 1 (.tmp 27) (.tmp 29), none, false⟩,
                ⟨(some 32), .load 1 false (.tmp 31), none, false⟩,
                ⟨(some 8), .move (.tmp 32), none, false⟩])
            (.seq (.region false [⟨(some 33), .move (.tmp 8), none, false⟩,
                  ⟨(some 34), .faddr 1 1 false (.tmp 4), none, false⟩,
                  ⟨(some 35), .load 1 false (.tmp 34), none, false⟩,
                  ⟨(some 36), .bin .eql 3 (.tmp 33) (.tmp 35), none, false⟩])
              (.cond (.tmp 36)
                (.seq (.region false [⟨(some 6), .move (.const (.int .i64 7)), none, false⟩])
                  (.ret))
                (.skip)))))
        (.region false [⟨(some 37), .bin .add 3 (.tmp 29) (.const (.int .i64 1)), none, false⟩,
            ⟨(some 29), .move (.tmp 37), none, false⟩])))
def ac50_G2 : List AOper :=
  [⟨(some 42), .faddr 3 1 false (.tmp 4), (some (41, true)), false⟩,
    ⟨(some 43), .load 1 false (.tmp 42), (some (41, true)), false⟩,
    ⟨(some 44), .bi .len [28].toArray 3 [(.tmp 43)], (some (41, true)), false⟩,
    ⟨(some 45), .faddr 4 1 false (.tmp 4), (some (41, true)), false⟩,
    ⟨(some 46), .load 1 false (.tmp 45), (some (41, true)), false⟩,
    ⟨(some 47), .bi .len [28].toArray 3 [(.tmp 46)], (some (41, true)), false⟩,
    ⟨(some 48), .bin .add 3 (.tmp 44) (.tmp 47), (some (41, true)), false⟩,
    ⟨(some 49), .bin .gtr 3 (.tmp 48) (.const (.int .i64 0)), (some (41, true)), false⟩,
    ⟨(some 50), .pick (.tmp 41) (.tmp 49) (.const (.bool false)), none, false⟩]
/-- patchbay/control.checkNode -/
def ac50 : AC :=
  .seq (.region false [⟨(some 3), .box false 31 (.tmp 0), none, false⟩,
        ⟨(some 4), .box false 40 (.tmp 1), none, false⟩,
        ⟨(some 6), .move (.const (.int .i64 0)), none, false⟩])
    (.seq (.seq (.region false [⟨(some 11), .faddr 0 1 false (.tmp 4), none, false⟩,
            ⟨(some 12), .load 1 false (.tmp 11), none, false⟩])
        (.block 0 (.seq (.seq (.region false [⟨(some 14), .bin .eql 3 (.tmp 12) (.const (.int .i64 1)), none, false⟩,
                  ⟨(some 13), .move (.tmp 14), none, false⟩])
              (.cond (.tmp 13)
                (.skip)
                (.region false [⟨(some 15), .bin .eql 3 (.tmp 12) (.const (.int .i64 3)), none, false⟩,
                    ⟨(some 13), .move (.tmp 15), none, false⟩])))
            (.cond (.tmp 13)
              (.seq (.seq (.region false (⟨(some 16), .faddr 1 1 false (.tmp 4), none, false⟩ :: ⟨(some 17), .load 1 false (.tmp 16), none, false⟩ :: ⟨(some 18), .bin .lss 3 (.tmp 17) (.const (.int .i64 0)), none, false⟩ :: ⟨(some 19), .move (.tmp 18), none, false⟩ :: (ac50_G1 ++ [])))
                  (.cond (.tmp 26)
                    (.seq (.region false [⟨(some 6), .move (.const (.int .i64 8)), none, false⟩])
                      (.ret))
                    (.skip)))
                (.seq (.seq (.region false [⟨(some 27), .move (.tmp 2), none, false⟩,
                        ⟨(some 28), .bi .len [29].toArray 3 [(.tmp 27)], none, false⟩,
                        ⟨(some 29), .move (.const (.int .i64 0)), none, false⟩])
                    (.block 1 (.loop ac50_L1)))
                  (.seq (.region false (⟨(some 38), .faddr 0 1 false (.tmp 4), none, false⟩ :: ⟨(some 39), .load 1 false (.tmp 38), none, false⟩ :: ⟨(some 40), .bin .eql 3 (.tmp 39) (.const (.int .i64 1)), none, false⟩ :: ⟨(some 41), .move (.tmp 40), none, false⟩ :: (ac50_G2 ++ [])))
                    (.cond (.tmp 50)
                      (.seq (.region false [⟨(some 6), .move (.const (.int .i64 5)), none, false⟩])
                        (.ret))
                      (.skip)))))
              (.seq (.region false [⟨(some 52), .bin .eql 3 (.tmp 12) (.const (.int .i64 2)), none, false⟩,
                    ⟨(some 51), .move (.tmp 52), none, false⟩])
                (.cond (.tmp 51)
                  (.seq (.region false [⟨(some 54), .faddr 2 1 false (.tmp 4), none, false⟩,
                        ⟨(some 55), .load 1 false (.tmp 54), none, false⟩,
                        ⟨(some 56), .load 9 true (.tmp 3), none, false⟩,
                        ⟨(some 57), .build [(.string ⟨[].toArray⟩), (.slice none 0 0), (.slice none 0 0), (.slice none 0 0), (.slice none 0 0), (.slice none 0 0), (.slice none 0 0), (.slice none 0 0), (.slice none 0 0), (.slice none 0 0)] [(0, 9, (.tmp 56))], none, false⟩,
                        ⟨(some 58), .call (.func 75) [(.tmp 55), (.tmp 57)], none, false⟩,
                        ⟨(some 53), .move (.tmp 58), none, false⟩,
                        ⟨(some 59), .extract (.tmp 53) 0, none, false⟩,
                        ⟨(some 60), .extract (.tmp 53) 1, none, false⟩,
                        ⟨(some 9), .move (.tmp 59), none, false⟩,
                        ⟨(some 10), .move (.tmp 60), none, false⟩])
                    (.seq (.seq (.region false [⟨(some 61), .move (.tmp 10), none, false⟩,
                            ⟨(some 62), .bin .neq 35 (.tmp 61) (.const (.int .i64 0)), none, false⟩])
                        (.cond (.tmp 62)
                          (.seq (.region false [⟨(some 63), .move (.tmp 10), none, false⟩,
                                ⟨(some 6), .move (.tmp 63), none, false⟩])
                            (.ret))
                          (.skip)))
                      (.seq (.region false [⟨(some 64), .move (.tmp 9), none, false⟩,
                            ⟨(some 65), .bin .neq 3 (.tmp 64) (.const (.int .i64 1)), none, false⟩])
                        (.cond (.tmp 65)
                          (.seq (.region false [⟨(some 6), .move (.const (.int .i64 10)), none, false⟩])
                            (.ret))
                          (.skip)))))
                  (.seq (.region false [⟨(some 6), .move (.const (.int .i64 11)), none, false⟩])
                    (.ret))))))))
      (.seq (.region false [⟨(some 6), .move (.const (.int .i64 0)), none, false⟩])
        (.ret)))
theorem text50 : FnText Try.prog 50 [] 66 3 ac50 [(6, none)] :=
  ⟨Try.call50, follows, Try.f50, _, Try.func50, rfl, rfl, by decide, by kernel_rfl, by kernel_rfl⟩


/-- patchbay/expr.Check -/
def ac75 : AC :=
  .seq (.region false [⟨(some 3), .box false 120 (.tmp 1), none, false⟩,
        ⟨(some 4), .move (.const (.int .i64 0)), none, false⟩,
        ⟨(some 5), .move (.const (.int .i64 0)), none, false⟩])
    (.seq (.seq (.region false [⟨(some 7), .move (.tmp 0), none, false⟩,
            ⟨(some 8), .bi .len [38].toArray 3 [(.tmp 7)], none, false⟩,
            ⟨(some 9), .bin .gtr 3 (.tmp 8) (.const (.int .i64 24)), none, false⟩])
        (.cond (.tmp 9)
          (.seq (.region false [⟨(some 4), .move (.const (.int .i64 0)), none, false⟩,
                ⟨(some 5), .move (.const (.int .i64 12)), none, false⟩])
            (.ret))
          (.skip)))
      (.seq (.region false [⟨(some 11), .load 10 true (.tmp 3), none, false⟩,
            ⟨(some 12), .move (.tmp 0), none, false⟩,
            ⟨(some 13), .call (.func 84) [(.tmp 11), (.tmp 12), (.const (.int .i64 0))], none, false⟩,
            ⟨(some 10), .move (.tmp 13), none, false⟩,
            ⟨(some 14), .extract (.tmp 10) 0, none, false⟩,
            ⟨(some 15), .extract (.tmp 10) 1, none, false⟩,
            ⟨(some 16), .extract (.tmp 10) 2, none, false⟩,
            ⟨(some 4), .move (.tmp 14), none, false⟩,
            ⟨(some 6), .move (.tmp 15), none, false⟩,
            ⟨(some 5), .move (.tmp 16), none, false⟩])
        (.seq (.block 0 (.seq (.region false [⟨(some 18), .move (.tmp 5), none, false⟩,
                  ⟨(some 19), .bin .neq 35 (.tmp 18) (.const (.int .i64 0)), none, false⟩,
                  ⟨(some 17), .move (.tmp 19), none, false⟩])
              (.cond (.tmp 17)
                (.seq (.region false [⟨(some 20), .move (.tmp 5), none, false⟩,
                      ⟨(some 4), .move (.const (.int .i64 0)), none, false⟩,
                      ⟨(some 5), .move (.tmp 20), none, false⟩])
                  (.ret))
                (.seq (.region false [⟨(some 22), .move (.tmp 6), none, false⟩,
                      ⟨(some 23), .move (.tmp 0), none, false⟩,
                      ⟨(some 24), .bi .len [38].toArray 3 [(.tmp 23)], none, false⟩,
                      ⟨(some 25), .bin .lss 3 (.tmp 22) (.tmp 24), none, false⟩,
                      ⟨(some 21), .move (.tmp 25), none, false⟩])
                  (.cond (.tmp 21)
                    (.seq (.region false [⟨(some 4), .move (.const (.int .i64 0)), none, false⟩,
                          ⟨(some 5), .move (.const (.int .i64 4)), none, false⟩])
                      (.ret))
                    (.skip))))))
          (.seq (.region false [⟨(some 26), .move (.tmp 4), none, false⟩,
                ⟨(some 4), .move (.tmp 26), none, false⟩,
                ⟨(some 5), .move (.const (.int .i64 0)), none, false⟩])
            (.ret)))))
theorem text75 : FnText Try.prog 75 [] 27 2 ac75 [(4, none), (5, none)] :=
  ⟨Try.call75, follows, Try.f75, _, Try.func75, rfl, rfl, by decide, by kernel_rfl, by kernel_rfl⟩

def ac84_L1 : AC :=
  .seq (.region false [⟨(some 45), .bin .lss 3 (.tmp 44) (.tmp 43), none, false⟩])
    (.seq (.cond (.tmp 45)
        (.skip)
        (.exit 1))
      (.seq (.block 2 (.seq (.region false [⟨(some 46), .move (.tmp 44), none, false⟩,
                ⟨(some 11), .move (.tmp 46), none, false⟩])
            (.seq (.region false [⟨(some 48), .move (.tmp 11), none, false⟩,
                  ⟨(some 49), .load 10 true (.tmp 3), none, false⟩,
                  ⟨(some 50), .move (.tmp 1), none, false⟩,
                  ⟨(some 51), .move (.tmp 7), none, false⟩,
                  ⟨(some 52), .call (.func 84) [(.tmp 49), (.tmp 50), (.tmp 51)], none, false⟩,
                  ⟨(some 47), .move (.tmp 52), none, false⟩,
                  ⟨(some 53), .extract (.tmp 47) 0, none, false⟩,
                  ⟨(some 54), .extract (.tmp 47) 1, none, false⟩,
                  ⟨(some 55), .extract (.tmp 47) 2, none, false⟩,
                  ⟨(some 56), .iaddrA 3 1 false (.tmp 10) (.tmp 48), none, false⟩,
                  ⟨none, .store 1 (.tmp 56) (.tmp 53), none, false⟩,
                  ⟨(some 7), .move (.tmp 54), none, false⟩,
                  ⟨(some 8), .move (.tmp 55), none, false⟩])
              (.seq (.region false [⟨(some 57), .move (.tmp 8), none, false⟩,
                    ⟨(some 58), .bin .neq 35 (.tmp 57) (.const (.int .i64 0)), none, false⟩])
                (.cond (.tmp 58)
                  (.seq (.region false [⟨(some 59), .move (.tmp 8), none, false⟩,
                        ⟨(some 6), .move (.const (.int .i64 0)), none, false⟩,
                        ⟨(some 7), .move (.const (.int .i64 0)), none, false⟩,
                        ⟨(some 8), .move (.tmp 59), none, false⟩])
                    (.ret))
                  (.skip))))))
        (.region false [⟨(some 60), .bin .add 3 (.tmp 44) (.const (.int .i64 1)), none, false⟩,
            ⟨(some 44), .move (.tmp 60), none, false⟩])))
/-- (patchbay/expr.Scope).check -/
def ac84 : AC :=
  .seq (.region false [⟨(some 3), .box false 120 (.tmp 0), none, false⟩,
        ⟨(some 6), .move (.const (.int .i64 0)), none, false⟩,
        ⟨(some 7), .move (.const (.int .i64 0)), none, false⟩,
        ⟨(some 8), .move (.const (.int .i64 0)), none, false⟩])
    (.seq (.seq (.region false [⟨(some 12), .move (.tmp 2), none, false⟩,
            ⟨(some 13), .move (.tmp 1), none, false⟩,
            ⟨(some 14), .bi .len [38].toArray 3 [(.tmp 13)], none, false⟩,
            ⟨(some 15), .bin .geq 3 (.tmp 12) (.tmp 14), none, false⟩])
        (.cond (.tmp 15)
          (.seq (.region false [⟨(some 6), .move (.const (.int .i64 0)), none, false⟩,
                ⟨(some 7), .move (.const (.int .i64 0)), none, false⟩,
                ⟨(some 8), .move (.const (.int .i64 3)), none, false⟩])
            (.ret))
          (.skip)))
      (.seq (.region false [⟨(some 16), .move (.tmp 1), none, false⟩,
            ⟨(some 17), .move (.tmp 2), none, false⟩,
            ⟨(some 18), .iaddr 3 (.tmp 16) (.tmp 17), none, false⟩,
            ⟨(some 19), .faddr 0 1 false (.tmp 18), none, false⟩,
            ⟨(some 20), .load 1 false (.tmp 19), none, false⟩,
            ⟨(some 21), .call (.func 86) [(.tmp 20)], none, false⟩,
            ⟨(some 9), .move (.tmp 21), none, false⟩])
        (.seq (.block 0 (.seq (.region false [⟨(some 23), .move (.tmp 9), none, false⟩,
                  ⟨(some 24), .bin .lss 3 (.tmp 23) (.const (.int .i64 0)), none, false⟩,
                  ⟨(some 22), .move (.tmp 24), none, false⟩])
              (.cond (.tmp 22)
                (.seq (.region false [⟨(some 6), .move (.const (.int .i64 0)), none, false⟩,
                      ⟨(some 7), .move (.const (.int .i64 0)), none, false⟩,
                      ⟨(some 8), .move (.const (.int .i64 11)), none, false⟩])
                  (.ret))
                (.seq (.region false [⟨(some 26), .move (.tmp 9), none, false⟩,
                      ⟨(some 27), .bin .eql 3 (.tmp 26) (.const (.int .i64 0)), none, false⟩,
                      ⟨(some 25), .move (.tmp 27), none, false⟩])
                  (.cond (.tmp 25)
                    (.seq (.region true [⟨(some 29), .load 10 true (.tmp 3), none, false⟩,
                          ⟨(some 30), .move (.tmp 1), none, false⟩,
                          ⟨(some 31), .move (.tmp 2), none, false⟩,
                          ⟨(some 32), .iaddr 3 (.tmp 30) (.tmp 31), none, false⟩,
                          ⟨(some 33), .load 3 true (.tmp 32), none, false⟩,
                          ⟨(some 34), .call (.func 87) [(.tmp 29), (.tmp 33)], none, false⟩,
                          ⟨(some 28), .move (.tmp 34), none, false⟩,
                          ⟨(some 35), .extract (.tmp 28) 0, none, false⟩,
                          ⟨(some 36), .extract (.tmp 28) 1, none, false⟩,
                          ⟨(some 6), .move (.tmp 35), none, false⟩,
                          ⟨(some 8), .move (.tmp 36), none, false⟩])
                      (.seq (.region false [⟨(some 37), .move (.tmp 6), none, false⟩,
                            ⟨(some 38), .move (.tmp 2), none, false⟩,
                            ⟨(some 39), .bin .add 3 (.tmp 38) (.const (.int .i64 1)), none, false⟩,
                            ⟨(some 40), .move (.tmp 8), none, false⟩,
                            ⟨(some 6), .move (.tmp 37), none, false⟩,
                            ⟨(some 7), .move (.tmp 39), none, false⟩,
                            ⟨(some 8), .move (.tmp 40), none, false⟩])
                        (.ret)))
                    (.skip))))))
          (.seq (.region false [⟨(some 10), .alloc true 142 (.agg [(.int .i64 0), (.int .i64 0), (.int .i64 0)].toArray), none, false⟩])
            (.seq (.region false [⟨(some 41), .move (.tmp 2), none, false⟩,
                  ⟨(some 42), .bin .add 3 (.tmp 41) (.const (.int .i64 1)), none, false⟩,
                  ⟨(some 7), .move (.tmp 42), none, false⟩])
              (.seq (.seq (.region false [⟨(some 43), .move (.tmp 9), none, false⟩,
                      ⟨(some 44), .move (.const (.int .i64 0)), none, false⟩])
                  (.block 1 (.loop ac84_L1)))
                (.seq (.region true [⟨(some 62), .move (.tmp 1), none, false⟩,
                      ⟨(some 63), .move (.tmp 2), none, false⟩,
                      ⟨(some 64), .iaddr 3 (.tmp 62) (.tmp 63), none, false⟩,
                      ⟨(some 65), .load 3 true (.tmp 64), none, false⟩,
                      ⟨(some 66), .load 3 true (.tmp 10), none, false⟩,
                      ⟨(some 67), .call (.func 88) [(.tmp 65), (.tmp 66)], none, false⟩,
                      ⟨(some 61), .move (.tmp 67), none, false⟩,
                      ⟨(some 68), .extract (.tmp 61) 0, none, false⟩,
                      ⟨(some 69), .extract (.tmp 61) 1, none, false⟩,
                      ⟨(some 6), .move (.tmp 68), none, false⟩,
                      ⟨(some 8), .move (.tmp 69), none, false⟩])
                  (.seq (.region false [⟨(some 70), .move (.tmp 6), none, false⟩,
                        ⟨(some 71), .move (.tmp 7), none, false⟩,
                        ⟨(some 72), .move (.tmp 8), none, false⟩,
                        ⟨(some 6), .move (.tmp 70), none, false⟩,
                        ⟨(some 7), .move (.tmp 71), none, false⟩,
                        ⟨(some 8), .move (.tmp 72), none, false⟩])
                    (.ret)))))))))
theorem text84 : FnText Try.prog 84 [10] 73 3 ac84 [(6, none), (7, none), (8, none)] :=
  ⟨Try.call84, follows, Try.f84, _, Try.func84, rfl, rfl, by decide, by kernel_rfl, by kernel_rfl⟩


/-- patchbay/expr.arity -/
def ac86 : AC :=
  .seq (.region false [⟨(some 2), .move (.const (.int .i64 0)), none, false⟩])
    (.seq (.seq (.region false [⟨(some 3), .move (.tmp 0), none, false⟩])
        (.block 0 (.seq (.seq (.region false [⟨(some 5), .bin .eql 3 (.tmp 3) (.const (.int .i64 1)), none, false⟩,
                  ⟨(some 4), .move (.tmp 5), none, false⟩])
              (.cond (.tmp 4)
                (.skip)
                (.seq (.region false [⟨(some 6), .bin .eql 3 (.tmp 3) (.const (.int .i64 2)), none, false⟩,
                      ⟨(some 4), .move (.tmp 6), none, false⟩])
                  (.cond (.tmp 4)
                    (.skip)
                    (.seq (.region false [⟨(some 7), .bin .eql 3 (.tmp 3) (.const (.int .i64 3)), none, false⟩,
                          ⟨(some 4), .move (.tmp 7), none, false⟩])
                      (.cond (.tmp 4)
                        (.skip)
                        (.region false [⟨(some 8), .bin .eql 3 (.tmp 3) (.const (.int .i64 4)), none, false⟩,
                            ⟨(some 4), .move (.tmp 8), none, false⟩])))))))
            (.cond (.tmp 4)
              (.seq (.region false [⟨(some 2), .move (.const (.int .i64 0)), none, false⟩])
                (.ret))
              (.seq (.seq (.region false [⟨(some 10), .bin .eql 3 (.tmp 3) (.const (.int .i64 5)), none, false⟩,
                      ⟨(some 9), .move (.tmp 10), none, false⟩])
                  (.cond (.tmp 9)
                    (.skip)
                    (.seq (.region false [⟨(some 11), .bin .eql 3 (.tmp 3) (.const (.int .i64 6)), none, false⟩,
                          ⟨(some 9), .move (.tmp 11), none, false⟩])
                      (.cond (.tmp 9)
                        (.skip)
                        (.seq (.region false [⟨(some 12), .bin .eql 3 (.tmp 3) (.const (.int .i64 7)), none, false⟩,
                              ⟨(some 9), .move (.tmp 12), none, false⟩])
                          (.cond (.tmp 9)
                            (.skip)
                            (.region false [⟨(some 13), .bin .eql 3 (.tmp 3) (.const (.int .i64 8)), none, false⟩,
                                ⟨(some 9), .move (.tmp 13), none, false⟩])))))))
                (.cond (.tmp 9)
                  (.seq (.region false [⟨(some 2), .move (.const (.int .i64 1)), none, false⟩])
                    (.ret))
                  (.seq (.seq (.region false [⟨(some 15), .bin .eql 3 (.tmp 3) (.const (.int .i64 9)), none, false⟩,
                          ⟨(some 14), .move (.tmp 15), none, false⟩])
                      (.cond (.tmp 14)
                        (.skip)
                        (.seq (.region false [⟨(some 16), .bin .eql 3 (.tmp 3) (.const (.int .i64 10)), none, false⟩,
                              ⟨(some 14), .move (.tmp 16), none, false⟩])
                          (.cond (.tmp 14)
                            (.skip)
                            (.seq (.region false [⟨(some 17), .bin .eql 3 (.tmp 3) (.const (.int .i64 11)), none, false⟩,
                                  ⟨(some 14), .move (.tmp 17), none, false⟩])
                              (.cond (.tmp 14)
                                (.skip)
                                (.seq (.region false [⟨(some 18), .bin .eql 3 (.tmp 3) (.const (.int .i64 12)), none, false⟩,
                                      ⟨(some 14), .move (.tmp 18), none, false⟩])
                                  (.cond (.tmp 14)
                                    (.skip)
                                    (.seq (.region false [⟨(some 19), .bin .eql 3 (.tmp 3) (.const (.int .i64 13)), none, false⟩,
                                          ⟨(some 14), .move (.tmp 19), none, false⟩])
                                      (.cond (.tmp 14)
                                        (.skip)
                                        (.seq (.region false [⟨(some 20), .bin .eql 3 (.tmp 3) (.const (.int .i64 14)), none, false⟩,
                                              ⟨(some 14), .move (.tmp 20), none, false⟩])
                                          (.cond (.tmp 14)
                                            (.skip)
                                            (.seq (.region false [⟨(some 21), .bin .eql 3 (.tmp 3) (.const (.int .i64 15)), none, false⟩,
                                                  ⟨(some 14), .move (.tmp 21), none, false⟩])
                                              (.cond (.tmp 14)
                                                (.skip)
                                                (.region false [⟨(some 22), .bin .eql 3 (.tmp 3) (.const (.int .i64 16)), none, false⟩,
                                                    ⟨(some 14), .move (.tmp 22), none, false⟩])))))))))))))))
                    (.cond (.tmp 14)
                      (.seq (.region false [⟨(some 2), .move (.const (.int .i64 2)), none, false⟩])
                        (.ret))
                      (.seq (.region false [⟨(some 24), .bin .eql 3 (.tmp 3) (.const (.int .i64 17)), none, false⟩,
                            ⟨(some 23), .move (.tmp 24), none, false⟩])
                        (.cond (.tmp 23)
                          (.seq (.region false [⟨(some 2), .move (.const (.int .i64 3)), none, false⟩])
                            (.ret))
                          (.skip)))))))))))
      (.seq (.region false [⟨(some 2), .move (.const (.int .i64 (-1))), none, false⟩])
        (.ret)))
theorem text86 : FnText Try.prog 86 [] 25 1 ac86 [(2, none)] :=
  ⟨Try.call86, follows, Try.f86, _, Try.func86, rfl, rfl, by decide, by kernel_rfl, by kernel_rfl⟩

def ac87_G2 : List AOper :=
  [⟨(some 27), .faddr 1 1 false (.tmp 3), (some (26, false)), false⟩,
    ⟨(some 28), .load 1 false (.tmp 27), (some (26, false)), false⟩,
    ⟨(some 29), .move (.tmp 6), (some (26, false)), false⟩,
    ⟨(some 30), .call (.func 93) [(.tmp 29)], (some (26, false)), false⟩,
    ⟨(some 31), .conv 147 3 (.tmp 30), (some (26, false)), false⟩,
    ⟨(some 32), .bin .gtr 3 (.tmp 28) (.tmp 31), (some (26, false)), false⟩,
    ⟨(some 33), .pick (.tmp 26) (.const (.bool true)) (.tmp 32), (some (22, true)), false⟩]
def ac87_G1 : List AOper :=
  (⟨(some 23), .faddr 1 1 false (.tmp 3), (some (22, true)), false⟩ :: ⟨(some 24), .load 1 false (.tmp 23), (some (22, true)), false⟩ :: ⟨(some 25), .bin .lss 3 (.tmp 24) (.const (.int .i64 0)), (some (22, true)), false⟩ :: ⟨(some 26), .move (.tmp 25), (some (22, true)), false⟩ :: (ac87_G2 ++ [⟨(some 34), .pick (.tmp 22) (.tmp 33) (.const (.bool false)), none, false⟩]))
def ac87_G3 : List AOper :=
  [⟨(some 61), .faddr 1 1 false (.tmp 3), (some (60, false)), false⟩,
    ⟨(some 62), .load 1 false (.tmp 61), (some (60, false)), false⟩,
    ⟨(some 63), .faddr 9 1 false (.tmp 2), (some (60, false)), false⟩,
    ⟨(some 64), .load 1 false (.tmp 63), (some (60, false)), false⟩,
    ⟨(some 65), .bi .len [23].toArray 3 [(.tmp 64)], (some (60, false)), false⟩,
    ⟨(some 66), .bin .geq 3 (.tmp 62) (.tmp 65), (some (60, false)), false⟩,
    ⟨(some 67), .pick (.tmp 60) (.const (.bool true)) (.tmp 66), none, false⟩]
def ac87_G4 : List AOper :=
  [⟨(some 82), .faddr 1 1 false (.tmp 3), (some (81, false)), false⟩,
    ⟨(some 83), .load 1 false (.tmp 82), (some (81, false)), false⟩,
    ⟨(some 84), .faddr 0 9 true (.tmp 2), (some (81, false)), false⟩,
    ⟨(some 85), .faddr 1 1 false (.tmp 84), (some (81, false)), false⟩,
    ⟨(some 86), .load 1 false (.tmp 85), (some (81, false)), false⟩,
    ⟨(some 87), .bi .len [22].toArray 3 [(.tmp 86)], (some (81, false)), false⟩,
    ⟨(some 88), .bin .geq 3 (.tmp 83) (.tmp 87), (some (81, false)), false⟩,
    ⟨(some 89), .pick (.tmp 81) (.const (.bool true)) (.tmp 88), none, false⟩]
/-- (patchbay/expr.Scope).primary -/
def ac87 : AC :=
  .seq (.region false [⟨(some 2), .box false 120 (.tmp 0), none, false⟩,
        ⟨(some 3), .box false 106 (.tmp 1), none, false⟩,
        ⟨(some 4), .move (.const (.int .i64 0)), none, false⟩,
        ⟨(some 5), .move (.const (.int .i64 0)), none, false⟩])
    (.seq (.seq (.region false [⟨(some 10), .faddr 0 1 false (.tmp 3), none, false⟩,
            ⟨(some 11), .load 1 false (.tmp 10), none, false⟩])
        (.block 0 (.seq (.region false [⟨(some 13), .bin .eql 3 (.tmp 11) (.const (.int .i64 1)), none, false⟩,
                ⟨(some 12), .move (.tmp 13), none, false⟩])
            (.cond (.tmp 12)
              (.seq (.region false [⟨(some 15), .faddr 2 1 false (.tmp 3), none, false⟩,
                    ⟨(some 16), .load 1 false (.tmp 15), none, false⟩,
                    ⟨(some 17), .call (.func 92) [(.tmp 16)], none, false⟩,
                    ⟨(some 14), .move (.tmp 17), none, false⟩,
                    ⟨(some 18), .extract (.tmp 14) 0, none, false⟩,
                    ⟨(some 19), .extract (.tmp 14) 1, none, false⟩,
                    ⟨(some 6), .move (.tmp 18), none, false⟩,
                    ⟨(some 7), .move (.tmp 19), none, false⟩])
                (.seq (.seq (.region true (⟨(some 20), .move (.tmp 7), none, false⟩ :: ⟨(some 21), .bin .eql 35 (.tmp 20) (.const (.int .i64 0)), none, false⟩ :: ⟨(some 22), .move (.tmp 21), none, false⟩ :: (ac87_G1 ++ [])))
                    (.cond (.tmp 34)
                      (.seq (.region false [⟨(some 4), .move (.const (.int .i64 0)), none, false⟩,
                            ⟨(some 5), .move (.const (.int .i64 9)), none, false⟩])
                        (.ret))
                      (.skip)))
                  (.seq (.region false [⟨(some 35), .move (.tmp 6), none, false⟩,
                        ⟨(some 36), .move (.tmp 7), none, false⟩,
                        ⟨(some 4), .move (.tmp 35), none, false⟩,
                        ⟨(some 5), .move (.tmp 36), none, false⟩])
                    (.ret))))
              (.seq (.region false [⟨(some 38), .bin .eql 3 (.tmp 11) (.const (.int .i64 2)), none, false⟩,
                    ⟨(some 37), .move (.tmp 38), none, false⟩])
                (.cond (.tmp 37)
                  (.seq (.region false [⟨(some 40), .load 10 true (.tmp 2), none, false⟩,
                        ⟨(some 41), .faddr 1 1 false (.tmp 3), none, false⟩,
                        ⟨(some 42), .load 1 false (.tmp 41), none, false⟩,
                        ⟨(some 43), .faddr 2 1 false (.tmp 3), none, false⟩,
                        ⟨(some 44), .load 1 false (.tmp 43), none, false⟩,
                        ⟨(some 45), .call (.func 94) [(.tmp 40), (.tmp 42), (.tmp 44)], none, false⟩,
                        ⟨(some 39), .move (.tmp 45), none, false⟩,
                        ⟨(some 46), .extract (.tmp 39) 0, none, false⟩,
                        ⟨(some 47), .extract (.tmp 39) 1, none, false⟩,
                        ⟨(some 8), .alloc true 115 (.agg [(.string ⟨[].toArray⟩), (.int .i64 0)].toArray), none, false⟩,
                        ⟨none, .store 2 (.tmp 8) (.tmp 46), none, false⟩,
                        ⟨(some 9), .move (.tmp 47), none, false⟩])
                    (.seq (.seq (.region false [⟨(some 48), .move (.tmp 9), none, false⟩,
                            ⟨(some 49), .un .not (.tmp 48), none, false⟩])
                        (.cond (.tmp 49)
                          (.seq (.region false [⟨(some 4), .move (.const (.int .i64 0)), none, false⟩,
                                ⟨(some 5), .move (.const (.int .i64 8)), none, false⟩])
                            (.ret))
                          (.skip)))
                      (.seq (.region false [⟨(some 50), .faddr 1 1 false (.tmp 8), none, false⟩,
                            ⟨(some 51), .load 1 false (.tmp 50), none, false⟩,
                            ⟨(some 52), .call (.func 92) [(.tmp 51)], none, false⟩,
                            ⟨(some 53), .extract (.tmp 52) 0, none, false⟩,
                            ⟨(some 54), .extract (.tmp 52) 1, none, false⟩,
                            ⟨(some 4), .move (.tmp 53), none, false⟩,
                            ⟨(some 5), .move (.tmp 54), none, false⟩])
                        (.ret))))
                  (.seq (.region false [⟨(some 56), .bin .eql 3 (.tmp 11) (.const (.int .i64 3)), none, false⟩,
                        ⟨(some 55), .move (.tmp 56), none, false⟩])
                    (.cond (.tmp 55)
                      (.seq (.seq (.region false (⟨(some 57), .faddr 1 1 false (.tmp 3), none, false⟩ :: ⟨(some 58), .load 1 false (.tmp 57), none, false⟩ :: ⟨(some 59), .bin .lss 3 (.tmp 58) (.const (.int .i64 0)), none, false⟩ :: ⟨(some 60), .move (.tmp 59), none, false⟩ :: (ac87_G3 ++ [])))
                          (.cond (.tmp 67)
                            (.seq (.region false [⟨(some 4), .move (.const (.int .i64 0)), none, false⟩,
                                  ⟨(some 5), .move (.const (.int .i64 8)), none, false⟩])
                              (.ret))
                            (.skip)))
                        (.seq (.region false [⟨(some 68), .faddr 9 1 false (.tmp 2), none, false⟩,
                              ⟨(some 69), .load 1 false (.tmp 68), none, false⟩,
                              ⟨(some 70), .faddr 1 1 false (.tmp 3), none, false⟩,
                              ⟨(some 71), .load 1 false (.tmp 70), none, false⟩,
                              ⟨(some 72), .iaddr 2 (.tmp 69) (.tmp 71), none, false⟩,
                              ⟨(some 73), .faddr 1 1 false (.tmp 72), none, false⟩,
                              ⟨(some 74), .load 1 false (.tmp 73), none, false⟩,
                              ⟨(some 75), .call (.func 92) [(.tmp 74)], none, false⟩,
                              ⟨(some 76), .extract (.tmp 75) 0, none, false⟩,
                              ⟨(some 77), .extract (.tmp 75) 1, none, false⟩,
                              ⟨(some 4), .move (.tmp 76), none, false⟩,
                              ⟨(some 5), .move (.tmp 77), none, false⟩])
                          (.ret)))
                      (.skip)))))))))
      (.seq (.seq (.region false (⟨(some 78), .faddr 1 1 false (.tmp 3), none, false⟩ :: ⟨(some 79), .load 1 false (.tmp 78), none, false⟩ :: ⟨(some 80), .bin .lss 3 (.tmp 79) (.const (.int .i64 0)), none, false⟩ :: ⟨(some 81), .move (.tmp 80), none, false⟩ :: (ac87_G4 ++ [])))
          (.cond (.tmp 89)
            (.seq (.region false [⟨(some 4), .move (.const (.int .i64 0)), none, false⟩,
                  ⟨(some 5), .move (.const (.int .i64 8)), none, false⟩])
              (.ret))
            (.skip)))
        (.seq (.region false [⟨(some 4), .move (.const (.int .i64 1)), none, false⟩,
              ⟨(some 5), .move (.const (.int .i64 0)), none, false⟩])
          (.ret))))
theorem text87 : FnText Try.prog 87 [8] 90 2 ac87 [(4, none), (5, none)] :=
  ⟨Try.call87, follows, Try.f87, _, Try.func87, rfl, rfl, by decide, by kernel_rfl, by kernel_rfl⟩

def ac92_G1 : List AOper :=
  [⟨(some 7), .move (.tmp 0), (some (6, false)), false⟩,
    ⟨(some 8), .bin .gtr 3 (.tmp 7) (.const (.int .i64 32)), (some (6, false)), false⟩,
    ⟨(some 9), .pick (.tmp 6) (.const (.bool true)) (.tmp 8), none, false⟩]
/-- patchbay/expr.wide -/
def ac92 : AC :=
  .seq (.region false [⟨(some 2), .move (.const (.int .i64 0)), none, false⟩,
        ⟨(some 3), .move (.const (.int .i64 0)), none, false⟩])
    (.seq (.seq (.region false (⟨(some 4), .move (.tmp 0), none, false⟩ :: ⟨(some 5), .bin .lss 3 (.tmp 4) (.const (.int .i64 1)), none, false⟩ :: ⟨(some 6), .move (.tmp 5), none, false⟩ :: (ac92_G1 ++ [])))
        (.cond (.tmp 9)
          (.seq (.region false [⟨(some 2), .move (.const (.int .i64 0)), none, false⟩,
                ⟨(some 3), .move (.const (.int .i64 10)), none, false⟩])
            (.ret))
          (.skip)))
      (.seq (.region false [⟨(some 10), .move (.tmp 0), none, false⟩,
            ⟨(some 2), .move (.tmp 10), none, false⟩,
            ⟨(some 3), .move (.const (.int .i64 0)), none, false⟩])
        (.ret)))
theorem text92 : FnText Try.prog 92 [] 11 1 ac92 [(2, none), (3, none)] :=
  ⟨Try.call92, follows, Try.f92, _, Try.func92, rfl, rfl, by decide, by kernel_rfl, by kernel_rfl⟩


/-- patchbay/bitvec.Mask -/
def ac93 : AC :=
  .seq (.region false [⟨(some 2), .move (.const (.int .u32 0)), none, false⟩])
    (.seq (.seq (.region false [⟨(some 3), .move (.tmp 0), none, false⟩,
            ⟨(some 4), .bslice false 3 1 false [(.tmp 3)], none, false⟩,
            ⟨(some 5), .call (.func 98) [(.tmp 4)], none, false⟩,
            ⟨(some 6), .un .not (.tmp 5), none, false⟩])
        (.cond (.tmp 6)
          (.seq (.region false [⟨(some 2), .move (.const (.int .u32 0)), none, false⟩])
            (.ret))
          (.skip)))
      (.seq (.region false [⟨(some 7), .move (.tmp 0), none, false⟩,
            ⟨(some 8), .bin .sub 3 (.const (.int .i64 32)) (.tmp 7), none, false⟩,
            ⟨(some 9), .bin .shr 147 (.const (.int .u32 4294967295)) (.tmp 8), none, false⟩,
            ⟨(some 2), .move (.tmp 9), none, false⟩])
        (.ret)))
theorem text93 : FnText Try.prog 93 [] 10 1 ac93 [(2, none)] :=
  ⟨Try.call93, follows, Try.f93, _, Try.func93, rfl, rfl, by decide, by kernel_rfl, by kernel_rfl⟩

def ac98_G1 : List AOper :=
  [⟨(some 14), .move (.tmp 4), (some (13, false)), false⟩,
    ⟨(some 15), .bin .gtr 3 (.tmp 14) (.const (.int .i64 32)), (some (13, false)), false⟩,
    ⟨(some 16), .pick (.tmp 13) (.const (.bool true)) (.tmp 15), none, false⟩]
def ac98_L1 : AC :=
  .seq (.region false [⟨(some 8), .bin .lss 3 (.tmp 7) (.tmp 6), none, false⟩])
    (.seq (.cond (.tmp 8)
        (.skip)
        (.exit 0))
      (.seq (.block 1 (.seq (.region false [⟨(some 9), .iaddr 1 (.tmp 5) (.tmp 7), none, false⟩,
                ⟨(some 10), .load 1 false (.tmp 9), none, false⟩,
                ⟨(some 4), .move (.tmp 10), none, false⟩])
            (.seq (.region false (⟨(some 11), .move (.tmp 4), none, false⟩ :: ⟨(some 12), .bin .lss 3 (.tmp 11) (.const (.int .i64 1)), none, false⟩ :: ⟨(some 13), .move (.tmp 12), none, false⟩ :: (ac98_G1 ++ [])))
              (.cond (.tmp 16)
                (.seq (.region false [⟨(some 2), .move (.const (.bool false)), none, false⟩])
                  (.ret))
                (.skip)))))
        (.region false [⟨(some 17), .bin .add 3 (.tmp 7) (.const (.int .i64 1)), none, false⟩,
            ⟨(some 7), .move (.tmp 17), none, false⟩])))
/-- patchbay/bitvec.valid -/
def ac98 : AC :=
  .seq (.region false [⟨(some 2), .move (.const (.bool false)), none, false⟩])
    (.seq (.seq (.region false [⟨(some 5), .move (.tmp 0), none, false⟩,
            ⟨(some 6), .bi .len [29].toArray 3 [(.tmp 5)], none, false⟩,
            ⟨(some 7), .move (.const (.int .i64 0)), none, false⟩])
        (.block 0 (.loop ac98_L1)))
      (.seq (.region false [⟨(some 2), .move (.const (.bool true)), none, false⟩])
        (.ret)))
theorem text98 : FnText Try.prog 98 [] 18 1 ac98 [(2, none)] :=
  ⟨Try.call98, follows, Try.f98, _, Try.func98, rfl, rfl, by decide, by kernel_rfl, by kernel_rfl⟩

def ac94_G1 : List AOper :=
  [⟨(some 17), .move (.tmp 1), (some (16, false)), false⟩,
    ⟨(some 18), .faddr 0 9 true (.tmp 3), (some (16, false)), false⟩,
    ⟨(some 19), .faddr 1 1 false (.tmp 18), (some (16, false)), false⟩,
    ⟨(some 20), .load 1 false (.tmp 19), (some (16, false)), false⟩,
    ⟨(some 21), .bi .len [22].toArray 3 [(.tmp 20)], (some (16, false)), false⟩,
    ⟨(some 22), .bin .geq 3 (.tmp 17) (.tmp 21), (some (16, false)), false⟩,
    ⟨(some 23), .pick (.tmp 16) (.const (.bool true)) (.tmp 22), none, false⟩]
def ac94_G2 : List AOper :=
  [⟨(some 35), .move (.tmp 2), (some (34, false)), false⟩,
    ⟨(some 36), .move (.tmp 8), (some (34, false)), false⟩,
    ⟨(some 37), .bi .len [23].toArray 3 [(.tmp 36)], (some (34, false)), false⟩,
    ⟨(some 38), .bin .geq 3 (.tmp 35) (.tmp 37), (some (34, false)), false⟩,
    ⟨(some 39), .pick (.tmp 34) (.const (.bool true)) (.tmp 38), none, false⟩]
/-- (patchbay/expr.Scope).field -/
def ac94 : AC :=
  .seq (.region false [⟨(some 3), .box false 120 (.tmp 0), none, false⟩,
        ⟨(some 6), .alloc true 115 (.agg [(.string ⟨[].toArray⟩), (.int .i64 0)].toArray), none, false⟩,
        ⟨(some 7), .move (.const (.bool false)), none, false⟩])
    (.seq (.region false [⟨(some 9), .faddr 0 9 true (.tmp 3), none, false⟩,
          ⟨(some 10), .faddr 2 1 false (.tmp 9), none, false⟩,
          ⟨(some 11), .load 1 false (.tmp 10), none, false⟩,
          ⟨(some 8), .move (.tmp 11), none, false⟩])
      (.seq (.seq (.region false [⟨(some 12), .move (.tmp 1), none, false⟩,
              ⟨(some 13), .bin .neq 3 (.tmp 12) (.const (.int .i64 (-1))), none, false⟩])
          (.cond (.tmp 13)
            (.seq (.seq (.region false (⟨(some 14), .move (.tmp 1), none, false⟩ :: ⟨(some 15), .bin .lss 3 (.tmp 14) (.const (.int .i64 0)), none, false⟩ :: ⟨(some 16), .move (.tmp 15), none, false⟩ :: (ac94_G1 ++ [])))
                (.cond (.tmp 23)
                  (.seq (.region false [⟨(some 24), .build [(.string ⟨[].toArray⟩), (.int .i64 0)] [], none, false⟩,
                        ⟨none, .store 2 (.tmp 6) (.tmp 24), none, false⟩,
                        ⟨(some 7), .move (.const (.bool false)), none, false⟩])
                    (.ret))
                  (.skip)))
              (.region false [⟨(some 25), .faddr 0 9 true (.tmp 3), none, false⟩,
                  ⟨(some 26), .faddr 1 1 false (.tmp 25), none, false⟩,
                  ⟨(some 27), .load 1 false (.tmp 26), none, false⟩,
                  ⟨(some 28), .move (.tmp 1), none, false⟩,
                  ⟨(some 29), .iaddr 2 (.tmp 27) (.tmp 28), none, false⟩,
                  ⟨(some 30), .faddr 1 1 false (.tmp 29), none, false⟩,
                  ⟨(some 31), .load 1 false (.tmp 30), none, false⟩,
                  ⟨(some 8), .move (.tmp 31), none, false⟩]))
            (.skip)))
        (.seq (.seq (.region false (⟨(some 32), .move (.tmp 2), none, false⟩ :: ⟨(some 33), .bin .lss 3 (.tmp 32) (.const (.int .i64 0)), none, false⟩ :: ⟨(some 34), .move (.tmp 33), none, false⟩ :: (ac94_G2 ++ [])))
            (.cond (.tmp 39)
              (.seq (.region false [⟨(some 40), .build [(.string ⟨[].toArray⟩), (.int .i64 0)] [], none, false⟩,
                    ⟨none, .store 2 (.tmp 6) (.tmp 40), none, false⟩,
                    ⟨(some 7), .move (.const (.bool false)), none, false⟩])
                (.ret))
              (.skip)))
          (.seq (.region false [⟨(some 41), .move (.tmp 8), none, false⟩,
                ⟨(some 42), .move (.tmp 2), none, false⟩,
                ⟨(some 43), .iaddr 2 (.tmp 41) (.tmp 42), none, false⟩,
                ⟨(some 44), .load 2 true (.tmp 43), none, false⟩,
                ⟨none, .store 2 (.tmp 6) (.tmp 44), none, false⟩,
                ⟨(some 7), .move (.const (.bool true)), none, false⟩])
            (.ret)))))
theorem text94 : FnText Try.prog 94 [6] 45 3 ac94 [(6, some (2, true)), (7, none)] :=
  ⟨Try.call94, follows, Try.f94, _, Try.func94, rfl, rfl, by decide, by kernel_rfl, by kernel_rfl⟩

def ac88_G1 : List AOper :=
  [⟨(some 17), .faddr 1 1 false (.tmp 2), (some (16, false)), false⟩,
    ⟨(some 18), .load 1 false (.tmp 17), (some (16, false)), false⟩,
    ⟨(some 19), .bin .gtr 3 (.tmp 18) (.const (.int .i64 31)), (some (16, false)), false⟩,
    ⟨(some 20), .pick (.tmp 16) (.const (.bool true)) (.tmp 19), none, false⟩]
def ac88_G2 : List AOper :=
  [⟨(some 35), .faddr 1 1 false (.tmp 2), (some (34, false)), false⟩,
    ⟨(some 36), .load 1 false (.tmp 35), (some (34, false)), false⟩,
    ⟨(some 37), .iaddrA 3 1 false (.tmp 3) (.const (.int .i64 0)), (some (34, false)), false⟩,
    ⟨(some 38), .load 1 false (.tmp 37), (some (34, false)), false⟩,
    ⟨(some 39), .faddr 2 1 false (.tmp 2), (some (34, false)), false⟩,
    ⟨(some 40), .load 1 false (.tmp 39), (some (34, false)), false⟩,
    ⟨(some 41), .bin .sub 3 (.tmp 38) (.tmp 40), (some (34, false)), false⟩,
    ⟨(some 42), .bin .gtr 3 (.tmp 36) (.tmp 41), (some (34, false)), false⟩,
    ⟨(some 43), .pick (.tmp 34) (.const (.bool true)) (.tmp 42), none, false⟩]
def ac88_G3 : List AOper :=
  [⟨(some 62), .iaddrA 3 1 false (.tmp 3) (.const (.int .i64 1)), (some (61, false)), false⟩,
    ⟨(some 63), .load 1 false (.tmp 62), (some (61, false)), false⟩,
    ⟨(some 64), .iaddrA 3 1 false (.tmp 3) (.const (.int .i64 2)), (some (61, false)), false⟩,
    ⟨(some 65), .load 1 false (.tmp 64), (some (61, false)), false⟩,
    ⟨(some 66), .bin .neq 3 (.tmp 63) (.tmp 65), (some (61, false)), false⟩,
    ⟨(some 67), .pick (.tmp 61) (.const (.bool true)) (.tmp 66), none, false⟩]
def ac88_G4 : List AOper :=
  [⟨(some 75), .iaddrA 3 1 false (.tmp 3) (.const (.int .i64 0)), (some (74, true)), false⟩,
    ⟨(some 76), .load 1 false (.tmp 75), (some (74, true)), false⟩,
    ⟨(some 77), .iaddrA 3 1 false (.tmp 3) (.const (.int .i64 1)), (some (74, true)), false⟩,
    ⟨(some 78), .load 1 false (.tmp 77), (some (74, true)), false⟩,
    ⟨(some 79), .bin .neq 3 (.tmp 76) (.tmp 78), (some (74, true)), false⟩,
    ⟨(some 80), .pick (.tmp 74) (.tmp 79) (.const (.bool false)), none, false⟩]
def ac88_G5 : List AOper :=
  [⟨(some 85), .faddr 0 1 false (.tmp 2), (some (84, false)), false⟩,
    ⟨(some 86), .load 1 false (.tmp 85), (some (84, false)), false⟩,
    ⟨(some 87), .bin .eql 3 (.tmp 86) (.const (.int .i64 16)), (some (84, false)), false⟩,
    ⟨(some 88), .pick (.tmp 84) (.const (.bool true)) (.tmp 87), none, false⟩]
/-- patchbay/expr.combine -/
def ac88 : AC :=
  .seq (.region false [⟨(some 2), .box false 106 (.tmp 0), none, false⟩,
        ⟨(some 3), .box false 142 (.tmp 1), none, false⟩,
        ⟨(some 4), .move (.const (.int .i64 0)), none, false⟩,
        ⟨(some 5), .move (.const (.int .i64 0)), none, false⟩])
    (.seq (.seq (.region false [⟨(some 8), .faddr 0 1 false (.tmp 2), none, false⟩,
            ⟨(some 9), .load 1 false (.tmp 8), none, false⟩])
        (.block 0 (.seq (.seq (.region false [⟨(some 11), .bin .eql 3 (.tmp 9) (.const (.int .i64 6)), none, false⟩,
                  ⟨(some 10), .move (.tmp 11), none, false⟩])
              (.cond (.tmp 10)
                (.skip)
                (.region false [⟨(some 12), .bin .eql 3 (.tmp 9) (.const (.int .i64 7)), none, false⟩,
                    ⟨(some 10), .move (.tmp 12), none, false⟩])))
            (.cond (.tmp 10)
              (.seq (.region false (⟨(some 13), .faddr 1 1 false (.tmp 2), none, false⟩ :: ⟨(some 14), .load 1 false (.tmp 13), none, false⟩ :: ⟨(some 15), .bin .lss 3 (.tmp 14) (.const (.int .i64 0)), none, false⟩ :: ⟨(some 16), .move (.tmp 15), none, false⟩ :: (ac88_G1 ++ [])))
                (.cond (.tmp 20)
                  (.seq (.region false [⟨(some 4), .move (.const (.int .i64 0)), none, false⟩,
                        ⟨(some 5), .move (.const (.int .i64 9)), none, false⟩])
                    (.ret))
                  (.skip)))
              (.seq (.region false [⟨(some 22), .bin .eql 3 (.tmp 9) (.const (.int .i64 8)), none, false⟩,
                    ⟨(some 21), .move (.tmp 22), none, false⟩])
                (.cond (.tmp 21)
                  (.seq (.seq (.region false [⟨(some 23), .faddr 1 1 false (.tmp 2), none, false⟩,
                          ⟨(some 24), .load 1 false (.tmp 23), none, false⟩,
                          ⟨(some 25), .bin .lss 3 (.tmp 24) (.const (.int .i64 0)), none, false⟩])
                      (.cond (.tmp 25)
                        (.seq (.region false [⟨(some 4), .move (.const (.int .i64 0)), none, false⟩,
                              ⟨(some 5), .move (.const (.int .i64 9)), none, false⟩])
                          (.ret))
                        (.skip)))
                    (.seq (.seq (.region false [⟨(some 27), .faddr 2 1 false (.tmp 2), none, false⟩,
                            ⟨(some 28), .load 1 false (.tmp 27), none, false⟩,
                            ⟨(some 29), .call (.func 92) [(.tmp 28)], none, false⟩,
                            ⟨(some 26), .move (.tmp 29), none, false⟩,
                            ⟨(some 30), .extract (.tmp 26) 0, none, false⟩,
                            ⟨(some 31), .extract (.tmp 26) 1, none, false⟩,
                            ⟨(some 6), .move (.tmp 30), none, false⟩,
                            ⟨(some 7), .move (.tmp 31), none, false⟩])
                        (.seq (.region false (⟨(some 32), .move (.tmp 7), none, false⟩ :: ⟨(some 33), .bin .neq 35 (.tmp 32) (.const (.int .i64 0)), none, false⟩ :: ⟨(some 34), .move (.tmp 33), none, false⟩ :: (ac88_G2 ++ [])))
                          (.cond (.tmp 43)
                            (.seq (.region false [⟨(some 4), .move (.const (.int .i64 0)), none, false⟩,
                                  ⟨(some 5), .move (.const (.int .i64 10)), none, false⟩])
                              (.ret))
                            (.skip))))
                      (.seq (.region false [⟨(some 44), .faddr 2 1 false (.tmp 2), none, false⟩,
                            ⟨(some 45), .load 1 false (.tmp 44), none, false⟩,
                            ⟨(some 4), .move (.tmp 45), none, false⟩,
                            ⟨(some 5), .move (.const (.int .i64 0)), none, false⟩])
                        (.ret))))
                  (.seq (.region false [⟨(some 47), .bin .eql 3 (.tmp 9) (.const (.int .i64 14)), none, false⟩,
                        ⟨(some 46), .move (.tmp 47), none, false⟩])
                    (.cond (.tmp 46)
                      (.seq (.region false [⟨(some 48), .iaddrA 3 1 false (.tmp 3) (.const (.int .i64 0)), none, false⟩,
                            ⟨(some 49), .load 1 false (.tmp 48), none, false⟩,
                            ⟨(some 50), .iaddrA 3 1 false (.tmp 3) (.const (.int .i64 1)), none, false⟩,
                            ⟨(some 51), .load 1 false (.tmp 50), none, false⟩,
                            ⟨(some 52), .bin .add 3 (.tmp 49) (.tmp 51), none, false⟩,
                            ⟨(some 53), .call (.func 92) [(.tmp 52)], none, false⟩,
                            ⟨(some 54), .extract (.tmp 53) 0, none, false⟩,
                            ⟨(some 55), .extract (.tmp 53) 1, none, false⟩,
                            ⟨(some 4), .move (.tmp 54), none, false⟩,
                            ⟨(some 5), .move (.tmp 55), none, false⟩])
                        (.ret))
                      (.seq (.region false [⟨(some 57), .bin .eql 3 (.tmp 9) (.const (.int .i64 17)), none, false⟩,
                            ⟨(some 56), .move (.tmp 57), none, false⟩])
                        (.cond (.tmp 56)
                          (.seq (.seq (.region false (⟨(some 58), .iaddrA 3 1 false (.tmp 3) (.const (.int .i64 0)), none, false⟩ :: ⟨(some 59), .load 1 false (.tmp 58), none, false⟩ :: ⟨(some 60), .bin .neq 3 (.tmp 59) (.const (.int .i64 1)), none, false⟩ :: ⟨(some 61), .move (.tmp 60), none, false⟩ :: (ac88_G3 ++ [])))
                              (.cond (.tmp 67)
                                (.seq (.region false [⟨(some 4), .move (.const (.int .i64 0)), none, false⟩,
                                      ⟨(some 5), .move (.const (.int .i64 10)), none, false⟩])
                                  (.ret))
                                (.skip)))
                            (.seq (.region false [⟨(some 68), .iaddrA 3 1 false (.tmp 3) (.const (.int .i64 1)), none, false⟩,
                                  ⟨(some 69), .load 1 false (.tmp 68), none, false⟩,
                                  ⟨(some 4), .move (.tmp 69), none, false⟩,
                                  ⟨(some 5), .move (.const (.int .i64 0)), none, false⟩])
                              (.ret)))
                          (.skip)))))))))))
      (.seq (.seq (.region false (⟨(some 70), .faddr 0 1 false (.tmp 2), none, false⟩ :: ⟨(some 71), .load 1 false (.tmp 70), none, false⟩ :: ⟨(some 72), .call (.func 86) [(.tmp 71)], none, false⟩ :: ⟨(some 73), .bin .eql 3 (.tmp 72) (.const (.int .i64 2)), none, false⟩ :: ⟨(some 74), .move (.tmp 73), none, false⟩ :: (ac88_G4 ++ [])))
          (.cond (.tmp 80)
            (.seq (.region false [⟨(some 4), .move (.const (.int .i64 0)), none, false⟩,
                  ⟨(some 5), .move (.const (.int .i64 10)), none, false⟩])
              (.ret))
            (.skip)))
        (.seq (.seq (.region false (⟨(some 81), .faddr 0 1 false (.tmp 2), none, false⟩ :: ⟨(some 82), .load 1 false (.tmp 81), none, false⟩ :: ⟨(some 83), .bin .eql 3 (.tmp 82) (.const (.int .i64 15)), none, false⟩ :: ⟨(some 84), .move (.tmp 83), none, false⟩ :: (ac88_G5 ++ [])))
            (.cond (.tmp 88)
              (.seq (.region false [⟨(some 4), .move (.const (.int .i64 1)), none, false⟩,
                    ⟨(some 5), .move (.const (.int .i64 0)), none, false⟩])
                (.ret))
              (.skip)))
          (.seq (.region false [⟨(some 89), .iaddrA 3 1 false (.tmp 3) (.const (.int .i64 0)), none, false⟩,
                ⟨(some 90), .load 1 false (.tmp 89), none, false⟩,
                ⟨(some 4), .move (.tmp 90), none, false⟩,
                ⟨(some 5), .move (.const (.int .i64 0)), none, false⟩])
            (.ret)))))
theorem text88 : FnText Try.prog 88 [] 91 2 ac88 [(4, none), (5, none)] :=
  ⟨Try.call88, follows, Try.f88, _, Try.func88, rfl, rfl, by decide, by kernel_rfl, by kernel_rfl⟩

def ac51_G1 : List AOper :=
  [⟨(some 7), .faddr 0 1 false (.tmp 1), (some (6, false)), false⟩,
    ⟨(some 8), .load 1 false (.tmp 7), (some (6, false)), false⟩,
    ⟨(some 9), .bin .eql 3 (.tmp 8) (.const (.int .i64 3)), (some (6, false)), false⟩,
    ⟨(some 10), .pick (.tmp 6) (.const (.bool true)) (.tmp 9), none, false⟩]
/-- patchbay/control.applies -/
def ac51 : AC :=
  .seq (.region false [⟨(some 1), .box false 40 (.tmp 0), none, false⟩,
        ⟨(some 2), .move (.const (.bool false)), none, false⟩])
    (.seq (.region false (⟨(some 3), .faddr 0 1 false (.tmp 1), none, false⟩ :: ⟨(some 4), .load 1 false (.tmp 3), none, false⟩ :: ⟨(some 5), .bin .eql 3 (.tmp 4) (.const (.int .i64 1)), none, false⟩ :: ⟨(some 6), .move (.tmp 5), none, false⟩ :: (ac51_G1 ++ [⟨(some 2), .move (.tmp 10), none, false⟩])))
      (.ret))
theorem text51 : FnText Try.prog 51 [] 11 1 ac51 [(2, none)] :=
  ⟨Try.call51, follows, Try.f51, _, Try.func51, rfl, rfl, by decide, by kernel_rfl, by kernel_rfl⟩


/-- patchbay/control.Tables -/
def ac25 : AC :=
  .seq (.region false [⟨(some 2), .move (.const (.slice none 0 0)), none, false⟩])
    (.seq (.region false [⟨(some 3), .alloc true 29 (.slice none 0 0), none, false⟩])
      (.seq (.region false [⟨(some 4), .move (.tmp 0), none, false⟩,
            ⟨(some 5), .mkFunc (.func 57) [] [(.tmp 3)], none, false⟩,
            ⟨(some 6), .call (.func 48) [(.tmp 4), (.tmp 5)], none, false⟩])
        (.seq (.region false [⟨(some 7), .load 1 false (.tmp 3), none, false⟩,
              ⟨(some 2), .move (.tmp 7), none, false⟩])
          (.ret))))
theorem text25 : FnText Try.prog 25 [3] 8 1 ac25 [(2, none)] :=
  ⟨Try.call25, follows, Try.f25, _, Try.func25, rfl, rfl, by decide, by kernel_rfl, by kernel_rfl⟩


/-- patchbay/control.Tables$1 -/
def ac57 : AC :=
  .seq (.region false [⟨(some 2), .box false 40 (.tmp 0), none, false⟩,
        ⟨(some 3), .move (.const (.bool false)), none, false⟩])
    (.seq (.seq (.region false [⟨(some 4), .load 5 true (.tmp 2), none, false⟩,
            ⟨(some 5), .call (.func 51) [(.tmp 4)], none, false⟩])
        (.cond (.tmp 5)
          (.region false [⟨(some 6), .load 1 false (.tmp 1), none, false⟩,
              ⟨(some 7), .faddr 1 1 false (.tmp 2), none, false⟩,
              ⟨(some 8), .load 1 false (.tmp 7), none, false⟩,
              ⟨(some 9), .bslice false 3 1 false [(.tmp 8)], none, false⟩,
              ⟨(some 10), .append 29 3 1 8 (.tmp 6) (.tmp 9), none, false⟩,
              ⟨none, .store 1 (.tmp 1) (.tmp 10), none, false⟩])
          (.skip)))
      (.seq (.region false [⟨(some 3), .move (.const (.bool true)), none, false⟩])
        (.ret)))
theorem text57 : FnText Try.prog 57 [] 11 2 ac57 [(3, none)] :=
  ⟨Try.call57, follows, Try.f57, _, Try.func57, rfl, rfl, by decide, by kernel_rfl, by kernel_rfl⟩

end Go.Proofs.Ytkgnjpoafilicaa
