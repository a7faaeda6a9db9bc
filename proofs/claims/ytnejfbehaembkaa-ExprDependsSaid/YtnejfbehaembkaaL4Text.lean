/-
 The text of each function of this seat, as the plain library tells it; each by the kernel's own reckoning from the program.
-/
import Derived.Test.YtnejfbehaembkaaL4TextA
set_option linter.unusedVariables false
set_option maxRecDepth 100000
namespace Go.Proofs.Ytnejfbehaembkaa
open Go Go.Pb
def ac65_G1 : List AOper :=
 [⟨(some 20), .move (t_ 0), (some (19, true)), false⟩,
 ⟨(some 21), .move (t_ 7), (some (19, true)), false⟩,
 ⟨(some 22), .iaddr 1 (t_ 20) (t_ 21), (some (19, true)), false⟩,
 ⟨(some 23), .load 1 false (t_ 22), (some (19, true)), false⟩,
 ⟨(some 24), .move (t_ 0), (some (19, true)), false⟩,
 ⟨(some 25), .move (t_ 7), (some (19, true)), false⟩,
 ⟨(some 26), .bin .sub 3 (t_ 25) (k_ 1), (some (19, true)), false⟩,
 ⟨(some 27), .iaddr 1 (t_ 24) (t_ 26), (some (19, true)), false⟩,
 ⟨(some 28), .load 1 false (t_ 27), (some (19, true)), false⟩,
 ⟨(some 29), .call (.func 71) [(t_ 23), (t_ 28)], (some (19, true)), false⟩,
 (q_ 30 (.pick (t_ 19) (t_ 29) (.const (.bool false))))]
def ac65_L2 : AC :=
 .seq (.seq (.region true ((q_ 16 (.move (t_ 7))) :: (q_ 17 (.move (t_ 1))) :: (q_ 18 (.bin .gtr 3 (t_ 16) (t_ 17))) :: (q_ 19 (.move (t_ 18))) :: (ac65_G1 ++ [])))
 (.cond (t_ 30)
 (.skip)
 (.exit 2)))
 (.seq (.block 3 (.region true [(q_ 33 (.move (t_ 0))),
 (q_ 34 (.move (t_ 7))),
 ⟨(some 35), .move (t_ 0), none, true⟩,
 ⟨(some 36), .move (t_ 7), none, true⟩,
 ⟨(some 37), .bin .sub 3 (t_ 36) (k_ 1), none, true⟩,
 (q_ 38 (.move (t_ 0))),
 (q_ 39 (.move (t_ 7))),
 (q_ 40 (.bin .sub 3 (t_ 39) (k_ 1))),
 (q_ 41 (.iaddr 1 (t_ 38) (t_ 40))),
 (q_ 42 (.load 1 false (t_ 41))),
 (q_ 43 (.move (t_ 0))),
 (q_ 44 (.move (t_ 7))),
 (q_ 45 (.iaddr 1 (t_ 43) (t_ 44))),
 (q_ 46 (.load 1 false (t_ 45))),
 (q_ 47 (.iaddr 1 (t_ 33) (t_ 34))),
 ⟨none, .store 1 (t_ 47) (t_ 42), none, false⟩,
 (q_ 48 (.iaddr 1 (t_ 35) (t_ 37))),
 ⟨none, .store 1 (t_ 48) (t_ 46), none, false⟩]))
 (.region false [(q_ 31 (.move (t_ 7))),
 (q_ 32 (.bin .sub 3 (t_ 31) (k_ 1))),
 (q_ 7 (.move (t_ 32)))]))
def ac65_L1 : AC :=
 .seq (.seq (.region false [(q_ 10 (.move (t_ 6))),
 (q_ 11 (.move (t_ 2))),
 (q_ 12 (.bin .lss 3 (t_ 10) (t_ 11)))])
 (.cond (t_ 12)
 (.skip)
 (.exit 0)))
 (.seq (.block 1 (.seq (.region false [(q_ 15 (.move (t_ 6))),
 (q_ 7 (.move (t_ 15)))])
 (.block 2 (.loop ac65_L2))))
 (.region false [(q_ 13 (.move (t_ 6))),
 (q_ 14 (.bin .add 3 (t_ 13) (k_ 1))),
 (q_ 6 (.move (t_ 14)))]))
/-- slices.insertionSortOrdered[int] -/
def ac65 : AC :=
 .seq (.region false [(q_ 8 (.move (t_ 1))),
 (q_ 9 (.bin .add 3 (t_ 8) (k_ 1))),
 (q_ 6 (.move (t_ 9)))])
 (.block 0 (.loop ac65_L1))
theorem text65 : FnText Try.prog 65 [] 49 3 ac65 [] :=
 ⟨Try.call65, follows, Try.f65, _, Try.func65, rfl, rfl, by decide, by kernel_rfl, by kernel_rfl⟩

def ac71_G1 : List AOper :=
 [⟨(some 8), .move (t_ 1), (some (7, true)), false⟩,
 ⟨(some 9), .call (.func 43) [(t_ 8)], (some (7, true)), false⟩,
 ⟨(some 10), .un .not (t_ 9), (some (7, true)), false⟩,
 (q_ 11 (.pick (t_ 7) (t_ 10) (.const (.bool false))))]
def ac71_G2 : List AOper :=
 [⟨(some 13), .move (t_ 0), (some (12, false)), false⟩,
 ⟨(some 14), .move (t_ 1), (some (12, false)), false⟩,
 ⟨(some 15), .bin .lss 3 (t_ 13) (t_ 14), (some (12, false)), false⟩,
 (q_ 16 (.pick (t_ 12) (.const (.bool true)) (t_ 15)))]
/-- cmp.Less[int] -/
def ac71 : AC :=
 .seq (.region false [(q_ 4 (.move (.const (.bool false))))])
 (.seq (.region false ((q_ 5 (.move (t_ 0))) :: (q_ 6 (.call (.func 43) [(t_ 5)])) :: (q_ 7 (.move (t_ 6))) :: (ac71_G1 ++ ((q_ 12 (.move (t_ 11))) :: (ac71_G2 ++ [(q_ 4 (.move (t_ 16)))])))))
 (.ret))
theorem text71 : FnText Try.prog 71 [] 17 2 ac71 [(4, none)] :=
 ⟨Try.call71, follows, Try.f71, _, Try.func71, rfl, rfl, by decide, by kernel_rfl, by kernel_rfl⟩

def ac66_L1 : AC :=
 .seq (.seq (.region false [(q_ 18 (.move (t_ 9))),
 (q_ 19 (.bin .geq 3 (t_ 18) (k_ 0)))])
 (.cond (t_ 19)
 (.skip)
 (.exit 0)))
 (.seq (.block 1 (.region false [(q_ 22 (.move (t_ 0))),
 (q_ 23 (.move (t_ 9))),
 (q_ 24 (.move (t_ 8))),
 (q_ 25 (.move (t_ 6))),
 (q_ 26 (.call (.func 91) [(t_ 22), (t_ 23), (t_ 24), (t_ 25)]))]))
 (.region false [(q_ 20 (.move (t_ 9))),
 (q_ 21 (.bin .sub 3 (t_ 20) (k_ 1))),
 (q_ 9 (.move (t_ 21)))]))
def ac66_L2 : AC :=
 .seq (.seq (.region false [(q_ 29 (.move (t_ 10))),
 (q_ 30 (.bin .geq 3 (t_ 29) (k_ 0)))])
 (.cond (t_ 30)
 (.skip)
 (.exit 2)))
 (.seq (.block 3 (.seq (.region true [(q_ 33 (.move (t_ 0))),
 (q_ 34 (.move (t_ 6))),
 ⟨(some 35), .move (t_ 0), none, true⟩,
 ⟨(some 36), .move (t_ 6), none, true⟩,
 ⟨(some 37), .move (t_ 10), none, true⟩,
 ⟨(some 38), .bin .add 3 (t_ 36) (t_ 37), none, true⟩,
 (q_ 39 (.move (t_ 0))),
 (q_ 40 (.move (t_ 6))),
 (q_ 41 (.move (t_ 10))),
 (q_ 42 (.bin .add 3 (t_ 40) (t_ 41))),
 (q_ 43 (.iaddr 1 (t_ 39) (t_ 42))),
 (q_ 44 (.load 1 false (t_ 43))),
 (q_ 45 (.move (t_ 0))),
 (q_ 46 (.move (t_ 6))),
 (q_ 47 (.iaddr 1 (t_ 45) (t_ 46))),
 (q_ 48 (.load 1 false (t_ 47))),
 (q_ 49 (.iaddr 1 (t_ 33) (t_ 34))),
 ⟨none, .store 1 (t_ 49) (t_ 44), none, false⟩,
 (q_ 50 (.iaddr 1 (t_ 35) (t_ 38))),
 ⟨none, .store 1 (t_ 50) (t_ 48), none, false⟩])
 (.region false [(q_ 51 (.move (t_ 0))),
 (q_ 52 (.move (t_ 7))),
 (q_ 53 (.move (t_ 10))),
 (q_ 54 (.move (t_ 6))),
 (q_ 55 (.call (.func 91) [(t_ 51), (t_ 52), (t_ 53), (t_ 54)]))])))
 (.region false [(q_ 31 (.move (t_ 10))),
 (q_ 32 (.bin .sub 3 (t_ 31) (k_ 1))),
 (q_ 10 (.move (t_ 32)))]))
/-- slices.heapSortOrdered[int] -/
def ac66 : AC :=
 .seq (.region false [(q_ 11 (.move (t_ 1))),
 (q_ 6 (.move (t_ 11)))])
 (.seq (.region false [(q_ 7 (.move (k_ 0)))])
 (.seq (.region false [(q_ 12 (.move (t_ 2))),
 (q_ 13 (.move (t_ 1))),
 (q_ 14 (.bin .sub 3 (t_ 12) (t_ 13))),
 (q_ 8 (.move (t_ 14)))])
 (.seq (.seq (.region false [(q_ 15 (.move (t_ 8))),
 (q_ 16 (.bin .sub 3 (t_ 15) (k_ 1))),
 (q_ 17 (.bin .quo 3 (t_ 16) (k_ 2))),
 (q_ 9 (.move (t_ 17)))])
 (.block 0 (.loop ac66_L1)))
 (.seq (.region false [(q_ 27 (.move (t_ 8))),
 (q_ 28 (.bin .sub 3 (t_ 27) (k_ 1))),
 (q_ 10 (.move (t_ 28)))])
 (.block 2 (.loop ac66_L2))))))
theorem text66 : FnText Try.prog 66 [] 56 3 ac66 [] :=
 ⟨Try.call66, follows, Try.f66, _, Try.func66, rfl, rfl, by decide, by kernel_rfl, by kernel_rfl⟩

def ac91_G1 : List AOper :=
 [⟨(some 22), .move (t_ 0), (some (21, true)), false⟩,
 ⟨(some 23), .move (t_ 3), (some (21, true)), false⟩,
 ⟨(some 24), .move (t_ 9), (some (21, true)), false⟩,
 ⟨(some 25), .bin .add 3 (t_ 23) (t_ 24), (some (21, true)), false⟩,
 ⟨(some 26), .iaddr 1 (t_ 22) (t_ 25), (some (21, true)), false⟩,
 ⟨(some 27), .load 1 false (t_ 26), (some (21, true)), false⟩,
 ⟨(some 28), .move (t_ 0), (some (21, true)), false⟩,
 ⟨(some 29), .move (t_ 3), (some (21, true)), false⟩,
 ⟨(some 30), .move (t_ 9), (some (21, true)), false⟩,
 ⟨(some 31), .bin .add 3 (t_ 29) (t_ 30), (some (21, true)), false⟩,
 ⟨(some 32), .bin .add 3 (t_ 31) (k_ 1), (some (21, true)), false⟩,
 ⟨(some 33), .iaddr 1 (t_ 28) (t_ 32), (some (21, true)), false⟩,
 ⟨(some 34), .load 1 false (t_ 33), (some (21, true)), false⟩,
 ⟨(some 35), .call (.func 71) [(t_ 27), (t_ 34)], (some (21, true)), false⟩,
 (q_ 36 (.pick (t_ 21) (t_ 35) (.const (.bool false))))]
def ac91_L1 : AC :=
 .block 1 (.seq (.region false [(q_ 11 (.move (t_ 8))),
 (q_ 12 (.bin .mul 3 (k_ 2) (t_ 11))),
 (q_ 13 (.bin .add 3 (t_ 12) (k_ 1))),
 (q_ 9 (.move (t_ 13)))])
 (.seq (.seq (.region false [(q_ 14 (.move (t_ 9))),
 (q_ 15 (.move (t_ 2))),
 (q_ 16 (.bin .geq 3 (t_ 14) (t_ 15)))])
 (.cond (t_ 16)
 (.exit 0)
 (.skip)))
 (.seq (.seq (.region true ((q_ 17 (.move (t_ 9))) :: (q_ 18 (.bin .add 3 (t_ 17) (k_ 1))) :: (q_ 19 (.move (t_ 2))) :: (q_ 20 (.bin .lss 3 (t_ 18) (t_ 19))) :: (q_ 21 (.move (t_ 20))) :: (ac91_G1 ++ [])))
 (.cond (t_ 36)
 (.region false [(q_ 37 (.move (t_ 9))),
 (q_ 38 (.bin .add 3 (t_ 37) (k_ 1))),
 (q_ 9 (.move (t_ 38)))])
 (.skip)))
 (.seq (.seq (.region true [(q_ 39 (.move (t_ 0))),
 (q_ 40 (.move (t_ 3))),
 (q_ 41 (.move (t_ 8))),
 (q_ 42 (.bin .add 3 (t_ 40) (t_ 41))),
 (q_ 43 (.iaddr 1 (t_ 39) (t_ 42))),
 (q_ 44 (.load 1 false (t_ 43))),
 (q_ 45 (.move (t_ 0))),
 (q_ 46 (.move (t_ 3))),
 (q_ 47 (.move (t_ 9))),
 (q_ 48 (.bin .add 3 (t_ 46) (t_ 47))),
 (q_ 49 (.iaddr 1 (t_ 45) (t_ 48))),
 (q_ 50 (.load 1 false (t_ 49))),
 (q_ 51 (.call (.func 71) [(t_ 44), (t_ 50)])),
 (q_ 52 (.un .not (t_ 51)))])
 (.cond (t_ 52)
 (.ret)
 (.skip)))
 (.seq (.region true [(q_ 53 (.move (t_ 0))),
 (q_ 54 (.move (t_ 3))),
 (q_ 55 (.move (t_ 8))),
 (q_ 56 (.bin .add 3 (t_ 54) (t_ 55))),
 ⟨(some 57), .move (t_ 0), none, true⟩,
 ⟨(some 58), .move (t_ 3), none, true⟩,
 ⟨(some 59), .move (t_ 9), none, true⟩,
 ⟨(some 60), .bin .add 3 (t_ 58) (t_ 59), none, true⟩,
 (q_ 61 (.move (t_ 0))),
 (q_ 62 (.move (t_ 3))),
 (q_ 63 (.move (t_ 9))),
 (q_ 64 (.bin .add 3 (t_ 62) (t_ 63))),
 (q_ 65 (.iaddr 1 (t_ 61) (t_ 64))),
 (q_ 66 (.load 1 false (t_ 65))),
 (q_ 67 (.move (t_ 0))),
 (q_ 68 (.move (t_ 3))),
 (q_ 69 (.move (t_ 8))),
 (q_ 70 (.bin .add 3 (t_ 68) (t_ 69))),
 (q_ 71 (.iaddr 1 (t_ 67) (t_ 70))),
 (q_ 72 (.load 1 false (t_ 71))),
 (q_ 73 (.iaddr 1 (t_ 53) (t_ 56))),
 ⟨none, .store 1 (t_ 73) (t_ 66), none, false⟩,
 (q_ 74 (.iaddr 1 (t_ 57) (t_ 60))),
 ⟨none, .store 1 (t_ 74) (t_ 72), none, false⟩])
 (.region false [(q_ 75 (.move (t_ 9))),
 (q_ 8 (.move (t_ 75)))]))))))
/-- slices.siftDownOrdered[int] -/
def ac91 : AC :=
 .seq (.region false [(q_ 10 (.move (t_ 1))),
 (q_ 8 (.move (t_ 10)))])
 (.block 0 (.loop ac91_L1))
theorem text91 : FnText Try.prog 91 [] 76 4 ac91 [] :=
 ⟨Try.call91, follows, Try.f91, _, Try.func91, rfl, rfl, by decide, by kernel_rfl, by kernel_rfl⟩

def ac67_L1 : AC :=
 .seq (.seq (.region false [(q_ 26 (.move (t_ 9))),
 (q_ 27 (.move (t_ 1))),
 (q_ 28 (.move (t_ 6))),
 (q_ 29 (.bin .quo 3 (t_ 28) (k_ 4))),
 (q_ 30 (.bin .mul 3 (t_ 29) (k_ 2))),
 (q_ 31 (.bin .add 3 (t_ 27) (t_ 30))),
 (q_ 32 (.bin .add 3 (t_ 31) (k_ 1))),
 (q_ 33 (.bin .leq 3 (t_ 26) (t_ 32)))])
 (.cond (t_ 33)
 (.skip)
 (.exit 0)))
 (.seq (.block 1 (.seq (.region false [(q_ 36 (.call (.func 88) [(t_ 7)])),
 (q_ 37 (.move (t_ 8))),
 (q_ 38 (.bin .sub 97 (t_ 37) (.const (.int .u64 1)))),
 (q_ 39 (.bin .and 97 (t_ 36) (t_ 38))),
 (q_ 40 (.conv 97 3 (t_ 39))),
 (q_ 10 (.move (t_ 40)))])
 (.seq (.seq (.region false [(q_ 41 (.move (t_ 10))),
 (q_ 42 (.move (t_ 6))),
 (q_ 43 (.bin .geq 3 (t_ 41) (t_ 42)))])
 (.cond (t_ 43)
 (.region false [(q_ 44 (.move (t_ 10))),
 (q_ 45 (.move (t_ 6))),
 (q_ 46 (.bin .sub 3 (t_ 44) (t_ 45))),
 (q_ 10 (.move (t_ 46)))])
 (.skip)))
 (.region true [(q_ 47 (.move (t_ 0))),
 (q_ 48 (.move (t_ 9))),
 ⟨(some 49), .move (t_ 0), none, true⟩,
 ⟨(some 50), .move (t_ 1), none, true⟩,
 ⟨(some 51), .move (t_ 10), none, true⟩,
 ⟨(some 52), .bin .add 3 (t_ 50) (t_ 51), none, true⟩,
 (q_ 53 (.move (t_ 0))),
 (q_ 54 (.move (t_ 1))),
 (q_ 55 (.move (t_ 10))),
 (q_ 56 (.bin .add 3 (t_ 54) (t_ 55))),
 (q_ 57 (.iaddr 1 (t_ 53) (t_ 56))),
 (q_ 58 (.load 1 false (t_ 57))),
 (q_ 59 (.move (t_ 0))),
 (q_ 60 (.move (t_ 9))),
 (q_ 61 (.iaddr 1 (t_ 59) (t_ 60))),
 (q_ 62 (.load 1 false (t_ 61))),
 (q_ 63 (.iaddr 1 (t_ 47) (t_ 48))),
 ⟨none, .store 1 (t_ 63) (t_ 58), none, false⟩,
 (q_ 64 (.iaddr 1 (t_ 49) (t_ 52))),
 ⟨none, .store 1 (t_ 64) (t_ 62), none, false⟩]))))
 (.region false [(q_ 34 (.move (t_ 9))),
 (q_ 35 (.bin .add 3 (t_ 34) (k_ 1))),
 (q_ 9 (.move (t_ 35)))]))
/-- slices.breakPatternsOrdered[int] -/
def ac67 : AC :=
 .seq (.region false [(q_ 11 (.move (t_ 2))),
 (q_ 12 (.move (t_ 1))),
 (q_ 13 (.bin .sub 3 (t_ 11) (t_ 12))),
 (q_ 6 (.move (t_ 13)))])
 (.seq (.region false [(q_ 14 (.move (t_ 6))),
 (q_ 15 (.bin .geq 3 (t_ 14) (k_ 8)))])
 (.cond (t_ 15)
 (.seq (.region false [(q_ 16 (.move (t_ 6))),
 (q_ 17 (.conv 3 135 (t_ 16))),
 (q_ 7 (.alloc true 135 (.int .u64 0))),
 ⟨none, .store 1 (t_ 7) (t_ 17), none, false⟩])
 (.seq (.region false [(q_ 18 (.move (t_ 6))),
 (q_ 19 (.call (.func 87) [(t_ 18)])),
 (q_ 8 (.move (t_ 19)))])
 (.seq (.region false [(q_ 20 (.move (t_ 1))),
 (q_ 21 (.move (t_ 6))),
 (q_ 22 (.bin .quo 3 (t_ 21) (k_ 4))),
 (q_ 23 (.bin .mul 3 (t_ 22) (k_ 2))),
 (q_ 24 (.bin .add 3 (t_ 20) (t_ 23))),
 (q_ 25 (.bin .sub 3 (t_ 24) (k_ 1))),
 (q_ 9 (.move (t_ 25)))])
 (.block 0 (.loop ac67_L1)))))
 (.skip)))
theorem text67 : FnText Try.prog 67 [7] 65 3 ac67 [] :=
 ⟨Try.call67, follows, Try.f67, _, Try.func67, rfl, rfl, by decide, by kernel_rfl, by kernel_rfl⟩


/-- slices.choosePivotOrdered[int] -/
def ac68 : AC :=
 .seq (.region false [(q_ 6 (.move (k_ 0))),
 (q_ 7 (.move (k_ 0)))])
 (.seq (.region false [(q_ 13 (.move (t_ 2))),
 (q_ 14 (.move (t_ 1))),
 (q_ 15 (.bin .sub 3 (t_ 13) (t_ 14))),
 (q_ 8 (.move (t_ 15)))])
 (.seq (.region false [(q_ 9 (.alloc true 3 (.int .i64 0)))])
 (.seq (.region false [(q_ 16 (.move (t_ 1))),
 (q_ 17 (.move (t_ 8))),
 (q_ 18 (.bin .quo 3 (t_ 17) (k_ 4))),
 (q_ 19 (.bin .mul 3 (t_ 18) (k_ 1))),
 (q_ 20 (.bin .add 3 (t_ 16) (t_ 19))),
 (q_ 10 (.move (t_ 20)))])
 (.seq (.region false [(q_ 21 (.move (t_ 1))),
 (q_ 22 (.move (t_ 8))),
 (q_ 23 (.bin .quo 3 (t_ 22) (k_ 4))),
 (q_ 24 (.bin .mul 3 (t_ 23) (k_ 2))),
 (q_ 25 (.bin .add 3 (t_ 21) (t_ 24))),
 (q_ 11 (.move (t_ 25)))])
 (.seq (.region false [(q_ 26 (.move (t_ 1))),
 (q_ 27 (.move (t_ 8))),
 (q_ 28 (.bin .quo 3 (t_ 27) (k_ 4))),
 (q_ 29 (.bin .mul 3 (t_ 28) (k_ 3))),
 (q_ 30 (.bin .add 3 (t_ 26) (t_ 29))),
 (q_ 12 (.move (t_ 30)))])
 (.seq (.seq (.region false [(q_ 31 (.move (t_ 8))),
 (q_ 32 (.bin .geq 3 (t_ 31) (k_ 8)))])
 (.cond (t_ 32)
 (.seq (.seq (.region false [(q_ 33 (.move (t_ 8))),
 (q_ 34 (.bin .geq 3 (t_ 33) (k_ 50)))])
 (.cond (t_ 34)
 (.seq (.region false [(q_ 35 (.move (t_ 0))),
 (q_ 36 (.move (t_ 10))),
 (q_ 37 (.call (.func 92) [(t_ 35), (t_ 36), (t_ 9)])),
 (q_ 10 (.move (t_ 37)))])
 (.seq (.region false [(q_ 38 (.move (t_ 0))),
 (q_ 39 (.move (t_ 11))),
 (q_ 40 (.call (.func 92) [(t_ 38), (t_ 39), (t_ 9)])),
 (q_ 11 (.move (t_ 40)))])
 (.region false [(q_ 41 (.move (t_ 0))),
 (q_ 42 (.move (t_ 12))),
 (q_ 43 (.call (.func 92) [(t_ 41), (t_ 42), (t_ 9)])),
 (q_ 12 (.move (t_ 43)))])))
 (.skip)))
 (.region false [(q_ 44 (.move (t_ 0))),
 (q_ 45 (.move (t_ 10))),
 (q_ 46 (.move (t_ 11))),
 (q_ 47 (.move (t_ 12))),
 (q_ 48 (.call (.func 93) [(t_ 44), (t_ 45), (t_ 46), (t_ 47), (t_ 9)])),
 (q_ 11 (.move (t_ 48)))]))
 (.skip)))
 (.seq (.region false [(q_ 49 (.load 1 false (t_ 9)))])
 (.block 0 (.seq (.region false [(q_ 52 (.bin .eql 3 (t_ 49) (k_ 0))),
 (q_ 51 (.move (t_ 52)))])
 (.cond (t_ 51)
 (.seq (.region false [(q_ 53 (.move (t_ 11))),
 (q_ 6 (.move (t_ 53))),
 (q_ 7 (.move (k_ 1)))])
 (.ret))
 (.seq (.region false [(q_ 55 (.bin .eql 3 (t_ 49) (k_ 12))),
 (q_ 54 (.move (t_ 55)))])
 (.cond (t_ 54)
 (.seq (.region false [(q_ 56 (.move (t_ 11))),
 (q_ 6 (.move (t_ 56))),
 (q_ 7 (.move (k_ 2)))])
 (.ret))
 (.seq (.region false [(q_ 50 (.move (t_ 11))),
 (q_ 6 (.move (t_ 50))),
 (q_ 7 (.move (k_ 0)))])
 (.ret))))))))))))))
theorem text68 : FnText Try.prog 68 [9] 57 3 ac68 [(6, none), (7, none)] :=
 ⟨Try.call68, follows, Try.f68, _, Try.func68, rfl, rfl, by decide, by kernel_rfl, by kernel_rfl⟩


/-- slices.medianAdjacentOrdered[int] -/
def ac92 : AC :=
 .seq (.region false [(q_ 6 (.move (k_ 0)))])
 (.seq (.region false [(q_ 7 (.move (t_ 0))),
 (q_ 8 (.move (t_ 1))),
 (q_ 9 (.bin .sub 3 (t_ 8) (k_ 1))),
 (q_ 10 (.move (t_ 1))),
 (q_ 11 (.move (t_ 1))),
 (q_ 12 (.bin .add 3 (t_ 11) (k_ 1))),
 (q_ 13 (.move (t_ 2))),
 (q_ 14 (.call (.func 93) [(t_ 7), (t_ 9), (t_ 10), (t_ 12), (t_ 13)])),
 (q_ 6 (.move (t_ 14)))])
 (.ret))
theorem text92 : FnText Try.prog 92 [] 15 3 ac92 [(6, none)] :=
 ⟨Try.call92, follows, Try.f92, _, Try.func92, rfl, rfl, by decide, by kernel_rfl, by kernel_rfl⟩


/-- slices.medianOrdered[int] -/
def ac93 : AC :=
 .seq (.region false [(q_ 10 (.move (k_ 0)))])
 (.seq (.region false [(q_ 12 (.move (t_ 0))),
 (q_ 13 (.move (t_ 1))),
 (q_ 14 (.move (t_ 2))),
 (q_ 15 (.move (t_ 4))),
 (q_ 16 (.call (.func 96) [(t_ 12), (t_ 13), (t_ 14), (t_ 15)])),
 (q_ 11 (.move (t_ 16))),
 (q_ 17 (.extract (t_ 11) 0)),
 (q_ 18 (.extract (t_ 11) 1)),
 (q_ 1 (.move (t_ 17))),
 (q_ 2 (.move (t_ 18)))])
 (.seq (.region false [(q_ 20 (.move (t_ 0))),
 (q_ 21 (.move (t_ 2))),
 (q_ 22 (.move (t_ 3))),
 (q_ 23 (.move (t_ 4))),
 (q_ 24 (.call (.func 96) [(t_ 20), (t_ 21), (t_ 22), (t_ 23)])),
 (q_ 19 (.move (t_ 24))),
 (q_ 25 (.extract (t_ 19) 0)),
 (q_ 26 (.extract (t_ 19) 1)),
 (q_ 2 (.move (t_ 25))),
 (q_ 3 (.move (t_ 26)))])
 (.seq (.region false [(q_ 28 (.move (t_ 0))),
 (q_ 29 (.move (t_ 1))),
 (q_ 30 (.move (t_ 2))),
 (q_ 31 (.move (t_ 4))),
 (q_ 32 (.call (.func 96) [(t_ 28), (t_ 29), (t_ 30), (t_ 31)])),
 (q_ 27 (.move (t_ 32))),
 (q_ 33 (.extract (t_ 27) 0)),
 (q_ 34 (.extract (t_ 27) 1)),
 (q_ 1 (.move (t_ 33))),
 (q_ 2 (.move (t_ 34)))])
 (.seq (.region false [(q_ 35 (.move (t_ 2))),
 (q_ 10 (.move (t_ 35)))])
 (.ret)))))
theorem text93 : FnText Try.prog 93 [] 36 5 ac93 [(10, none)] :=
 ⟨Try.call93, follows, Try.f93, _, Try.func93, rfl, rfl, by decide, by kernel_rfl, by kernel_rfl⟩


/-- slices.order2Ordered[int] -/
def ac96 : AC :=
 .seq (.region false [(q_ 8 (.move (k_ 0))),
 (q_ 9 (.move (k_ 0)))])
 (.seq (.seq (.regionT [(q_ 10 (.move (t_ 0))),
 (q_ 11 (.move (t_ 2))),
 (q_ 12 (.iaddr 1 (t_ 10) (t_ 11))),
 (q_ 13 (.load 1 false (t_ 12))),
 (q_ 14 (.move (t_ 0))),
 (q_ 15 (.move (t_ 1))),
 (q_ 16 (.iaddr 1 (t_ 14) (t_ 15))),
 (q_ 17 (.load 1 false (t_ 16)))] (q_ 18 (.call (.func 71) [(t_ 13), (t_ 17)])))
 (.cond (t_ 18)
 (.seq (.region false [(q_ 19 (.move (t_ 3))),
 (q_ 20 (.nilCheck (t_ 19))),
 (q_ 21 (.load 1 false (t_ 20))),
 (q_ 22 (.bin .add 3 (t_ 21) (k_ 1))),
 (q_ 23 (.nilCheck (t_ 19))),
 ⟨none, .store 1 (t_ 23) (t_ 22), none, false⟩])
 (.seq (.region false [(q_ 24 (.move (t_ 2))),
 (q_ 25 (.move (t_ 1))),
 (q_ 8 (.move (t_ 24))),
 (q_ 9 (.move (t_ 25)))])
 (.ret)))
 (.skip)))
 (.seq (.region false [(q_ 26 (.move (t_ 1))),
 (q_ 27 (.move (t_ 2))),
 (q_ 8 (.move (t_ 26))),
 (q_ 9 (.move (t_ 27)))])
 (.ret)))
theorem text96 : FnText Try.prog 96 [] 28 4 ac96 [(8, none), (9, none)] :=
 ⟨Try.call96, follows, Try.f96, _, Try.func96, rfl, rfl, by decide, by kernel_rfl, by kernel_rfl⟩

def ac69_L1 : AC :=
 .seq (.seq (.region false [(q_ 11 (.move (t_ 6))),
 (q_ 12 (.move (t_ 7))),
 (q_ 13 (.bin .lss 3 (t_ 11) (t_ 12)))])
 (.cond (t_ 13)
 (.skip)
 (.exit 0)))
 (.block 1 (.seq (.region true [(q_ 14 (.move (t_ 0))),
 (q_ 15 (.move (t_ 6))),
 ⟨(some 16), .move (t_ 0), none, true⟩,
 ⟨(some 17), .move (t_ 7), none, true⟩,
 (q_ 18 (.move (t_ 0))),
 (q_ 19 (.move (t_ 7))),
 (q_ 20 (.iaddr 1 (t_ 18) (t_ 19))),
 (q_ 21 (.load 1 false (t_ 20))),
 (q_ 22 (.move (t_ 0))),
 (q_ 23 (.move (t_ 6))),
 (q_ 24 (.iaddr 1 (t_ 22) (t_ 23))),
 (q_ 25 (.load 1 false (t_ 24))),
 (q_ 26 (.iaddr 1 (t_ 14) (t_ 15))),
 ⟨none, .store 1 (t_ 26) (t_ 21), none, false⟩,
 (q_ 27 (.iaddr 1 (t_ 16) (t_ 17))),
 ⟨none, .store 1 (t_ 27) (t_ 25), none, false⟩])
 (.seq (.region false [(q_ 28 (.move (t_ 6))),
 (q_ 29 (.bin .add 3 (t_ 28) (k_ 1))),
 (q_ 6 (.move (t_ 29)))])
 (.region false [(q_ 30 (.move (t_ 7))),
 (q_ 31 (.bin .sub 3 (t_ 30) (k_ 1))),
 (q_ 7 (.move (t_ 31)))]))))
/-- slices.reverseRangeOrdered[int] -/
def ac69 : AC :=
 .seq (.region false [(q_ 8 (.move (t_ 1))),
 (q_ 6 (.move (t_ 8)))])
 (.seq (.region false [(q_ 9 (.move (t_ 2))),
 (q_ 10 (.bin .sub 3 (t_ 9) (k_ 1))),
 (q_ 7 (.move (t_ 10)))])
 (.block 0 (.loop ac69_L1)))
theorem text69 : FnText Try.prog 69 [] 32 3 ac69 [] :=
 ⟨Try.call69, follows, Try.f69, _, Try.func69, rfl, rfl, by decide, by kernel_rfl, by kernel_rfl⟩

def ac70_G1 : List AOper :=
 [⟨(some 21), .move (t_ 0), (some (20, true)), false⟩,
 ⟨(some 22), .move (t_ 7), (some (20, true)), false⟩,
 ⟨(some 23), .iaddr 1 (t_ 21) (t_ 22), (some (20, true)), false⟩,
 ⟨(some 24), .load 1 false (t_ 23), (some (20, true)), false⟩,
 ⟨(some 25), .move (t_ 0), (some (20, true)), false⟩,
 ⟨(some 26), .move (t_ 7), (some (20, true)), false⟩,
 ⟨(some 27), .bin .sub 3 (t_ 26) (k_ 1), (some (20, true)), false⟩,
 ⟨(some 28), .iaddr 1 (t_ 25) (t_ 27), (some (20, true)), false⟩,
 ⟨(some 29), .load 1 false (t_ 28), (some (20, true)), false⟩,
 ⟨(some 30), .call (.func 71) [(t_ 24), (t_ 29)], (some (20, true)), false⟩,
 ⟨(some 31), .un .not (t_ 30), (some (20, true)), false⟩,
 (q_ 32 (.pick (t_ 20) (t_ 31) (.const (.bool false))))]
def ac70_L2 : AC :=
 .seq (.seq (.region true ((q_ 17 (.move (t_ 7))) :: (q_ 18 (.move (t_ 2))) :: (q_ 19 (.bin .lss 3 (t_ 17) (t_ 18))) :: (q_ 20 (.move (t_ 19))) :: (ac70_G1 ++ [])))
 (.cond (t_ 32)
 (.skip)
 (.exit 2)))
 (.block 3 (.region false [(q_ 33 (.move (t_ 7))),
 (q_ 34 (.bin .add 3 (t_ 33) (k_ 1))),
 (q_ 7 (.move (t_ 34)))]))
def ac70_L3 : AC :=
 .seq (.seq (.region false [(q_ 64 (.move (t_ 9))),
 (q_ 65 (.bin .geq 3 (t_ 64) (k_ 1)))])
 (.cond (t_ 65)
 (.skip)
 (.exit 4)))
 (.seq (.block 5 (.seq (.seq (.region true [(q_ 68 (.move (t_ 0))),
 (q_ 69 (.move (t_ 9))),
 (q_ 70 (.iaddr 1 (t_ 68) (t_ 69))),
 (q_ 71 (.load 1 false (t_ 70))),
 (q_ 72 (.move (t_ 0))),
 (q_ 73 (.move (t_ 9))),
 (q_ 74 (.bin .sub 3 (t_ 73) (k_ 1))),
 (q_ 75 (.iaddr 1 (t_ 72) (t_ 74))),
 (q_ 76 (.load 1 false (t_ 75))),
 (q_ 77 (.call (.func 71) [(t_ 71), (t_ 76)])),
 (q_ 78 (.un .not (t_ 77)))])
 (.cond (t_ 78)
 (.exit 4)
 (.skip)))
 (.region true [(q_ 79 (.move (t_ 0))),
 (q_ 80 (.move (t_ 9))),
 ⟨(some 81), .move (t_ 0), none, true⟩,
 ⟨(some 82), .move (t_ 9), none, true⟩,
 ⟨(some 83), .bin .sub 3 (t_ 82) (k_ 1), none, true⟩,
 (q_ 84 (.move (t_ 0))),
 (q_ 85 (.move (t_ 9))),
 (q_ 86 (.bin .sub 3 (t_ 85) (k_ 1))),
 (q_ 87 (.iaddr 1 (t_ 84) (t_ 86))),
 (q_ 88 (.load 1 false (t_ 87))),
 (q_ 89 (.move (t_ 0))),
 (q_ 90 (.move (t_ 9))),
 (q_ 91 (.iaddr 1 (t_ 89) (t_ 90))),
 (q_ 92 (.load 1 false (t_ 91))),
 (q_ 93 (.iaddr 1 (t_ 79) (t_ 80))),
 ⟨none, .store 1 (t_ 93) (t_ 88), none, false⟩,
 (q_ 94 (.iaddr 1 (t_ 81) (t_ 83))),
 ⟨none, .store 1 (t_ 94) (t_ 92), none, false⟩])))
 (.region false [(q_ 66 (.move (t_ 9))),
 (q_ 67 (.bin .sub 3 (t_ 66) (k_ 1))),
 (q_ 9 (.move (t_ 67)))]))
def ac70_L4 : AC :=
 .seq (.seq (.region false [(q_ 101 (.move (t_ 10))),
 (q_ 102 (.move (t_ 2))),
 (q_ 103 (.bin .lss 3 (t_ 101) (t_ 102)))])
 (.cond (t_ 103)
 (.skip)
 (.exit 6)))
 (.seq (.block 7 (.seq (.seq (.region true [(q_ 106 (.move (t_ 0))),
 (q_ 107 (.move (t_ 10))),
 (q_ 108 (.iaddr 1 (t_ 106) (t_ 107))),
 (q_ 109 (.load 1 false (t_ 108))),
 (q_ 110 (.move (t_ 0))),
 (q_ 111 (.move (t_ 10))),
 (q_ 112 (.bin .sub 3 (t_ 111) (k_ 1))),
 (q_ 113 (.iaddr 1 (t_ 110) (t_ 112))),
 (q_ 114 (.load 1 false (t_ 113))),
 (q_ 115 (.call (.func 71) [(t_ 109), (t_ 114)])),
 (q_ 116 (.un .not (t_ 115)))])
 (.cond (t_ 116)
 (.exit 6)
 (.skip)))
 (.region true [(q_ 117 (.move (t_ 0))),
 (q_ 118 (.move (t_ 10))),
 ⟨(some 119), .move (t_ 0), none, true⟩,
 ⟨(some 120), .move (t_ 10), none, true⟩,
 ⟨(some 121), .bin .sub 3 (t_ 120) (k_ 1), none, true⟩,
 (q_ 122 (.move (t_ 0))),
 (q_ 123 (.move (t_ 10))),
 (q_ 124 (.bin .sub 3 (t_ 123) (k_ 1))),
 (q_ 125 (.iaddr 1 (t_ 122) (t_ 124))),
 (q_ 126 (.load 1 false (t_ 125))),
 (q_ 127 (.move (t_ 0))),
 (q_ 128 (.move (t_ 10))),
 (q_ 129 (.iaddr 1 (t_ 127) (t_ 128))),
 (q_ 130 (.load 1 false (t_ 129))),
 (q_ 131 (.iaddr 1 (t_ 117) (t_ 118))),
 ⟨none, .store 1 (t_ 131) (t_ 126), none, false⟩,
 (q_ 132 (.iaddr 1 (t_ 119) (t_ 121))),
 ⟨none, .store 1 (t_ 132) (t_ 130), none, false⟩])))
 (.region false [(q_ 104 (.move (t_ 10))),
 (q_ 105 (.bin .add 3 (t_ 104) (k_ 1))),
 (q_ 10 (.move (t_ 105)))]))
def ac70_L1 : AC :=
 .seq (.seq (.region false [(q_ 13 (.move (t_ 8))),
 (q_ 14 (.bin .lss 3 (t_ 13) (k_ 5)))])
 (.cond (t_ 14)
 (.skip)
 (.exit 0)))
 (.seq (.block 1 (.seq (.block 2 (.loop ac70_L2))
 (.seq (.seq (.region false [(q_ 35 (.move (t_ 7))),
 (q_ 36 (.move (t_ 2))),
 (q_ 37 (.bin .eql 3 (t_ 35) (t_ 36)))])
 (.cond (t_ 37)
 (.seq (.region false [(q_ 6 (.move (.const (.bool true))))])
 (.ret))
 (.skip)))
 (.seq (.seq (.region false [(q_ 38 (.move (t_ 2))),
 (q_ 39 (.move (t_ 1))),
 (q_ 40 (.bin .sub 3 (t_ 38) (t_ 39))),
 (q_ 41 (.bin .lss 3 (t_ 40) (k_ 50)))])
 (.cond (t_ 41)
 (.seq (.region false [(q_ 6 (.move (.const (.bool false))))])
 (.ret))
 (.skip)))
 (.seq (.region true [(q_ 42 (.move (t_ 0))),
 (q_ 43 (.move (t_ 7))),
 ⟨(some 44), .move (t_ 0), none, true⟩,
 ⟨(some 45), .move (t_ 7), none, true⟩,
 ⟨(some 46), .bin .sub 3 (t_ 45) (k_ 1), none, true⟩,
 (q_ 47 (.move (t_ 0))),
 (q_ 48 (.move (t_ 7))),
 (q_ 49 (.bin .sub 3 (t_ 48) (k_ 1))),
 (q_ 50 (.iaddr 1 (t_ 47) (t_ 49))),
 (q_ 51 (.load 1 false (t_ 50))),
 (q_ 52 (.move (t_ 0))),
 (q_ 53 (.move (t_ 7))),
 (q_ 54 (.iaddr 1 (t_ 52) (t_ 53))),
 (q_ 55 (.load 1 false (t_ 54))),
 (q_ 56 (.iaddr 1 (t_ 42) (t_ 43))),
 ⟨none, .store 1 (t_ 56) (t_ 51), none, false⟩,
 (q_ 57 (.iaddr 1 (t_ 44) (t_ 46))),
 ⟨none, .store 1 (t_ 57) (t_ 55), none, false⟩])
 (.seq (.seq (.region false [(q_ 58 (.move (t_ 7))),
 (q_ 59 (.move (t_ 1))),
 (q_ 60 (.bin .sub 3 (t_ 58) (t_ 59))),
 (q_ 61 (.bin .geq 3 (t_ 60) (k_ 2)))])
 (.cond (t_ 61)
 (.seq (.region false [(q_ 62 (.move (t_ 7))),
 (q_ 63 (.bin .sub 3 (t_ 62) (k_ 1))),
 (q_ 9 (.move (t_ 63)))])
 (.block 4 (.loop ac70_L3)))
 (.skip)))
 (.seq (.region false [(q_ 95 (.move (t_ 2))),
 (q_ 96 (.move (t_ 7))),
 (q_ 97 (.bin .sub 3 (t_ 95) (t_ 96))),
 (q_ 98 (.bin .geq 3 (t_ 97) (k_ 2)))])
 (.cond (t_ 98)
 (.seq (.region false [(q_ 99 (.move (t_ 7))),
 (q_ 100 (.bin .add 3 (t_ 99) (k_ 1))),
 (q_ 10 (.move (t_ 100)))])
 (.block 6 (.loop ac70_L4)))
 (.skip)))))))))
 (.region false [(q_ 15 (.move (t_ 8))),
 (q_ 16 (.bin .add 3 (t_ 15) (k_ 1))),
 (q_ 8 (.move (t_ 16)))]))
/-- slices.partialInsertionSortOrdered[int] -/
def ac70 : AC :=
 .seq (.region false [(q_ 6 (.move (.const (.bool false))))])
 (.seq (.region false [(q_ 11 (.move (t_ 1))),
 (q_ 12 (.bin .add 3 (t_ 11) (k_ 1))),
 (q_ 7 (.move (t_ 12)))])
 (.seq (.seq (.region false [(q_ 8 (.move (k_ 0)))])
 (.block 0 (.loop ac70_L1)))
 (.seq (.region false [(q_ 6 (.move (.const (.bool false))))])
 (.ret))))
theorem text70 : FnText Try.prog 70 [] 133 3 ac70 [(6, none)] :=
 ⟨Try.call70, follows, Try.f70, _, Try.func70, rfl, rfl, by decide, by kernel_rfl, by kernel_rfl⟩

def ac72_G1 : List AOper :=
 [⟨(some 33), .move (t_ 0), (some (32, true)), false⟩,
 ⟨(some 34), .move (t_ 1), (some (32, true)), false⟩,
 ⟨(some 35), .iaddr 1 (t_ 33) (t_ 34), (some (32, true)), false⟩,
 ⟨(some 36), .load 1 false (t_ 35), (some (32, true)), false⟩,
 ⟨(some 37), .move (t_ 0), (some (32, true)), false⟩,
 ⟨(some 38), .move (t_ 9), (some (32, true)), false⟩,
 ⟨(some 39), .iaddr 1 (t_ 37) (t_ 38), (some (32, true)), false⟩,
 ⟨(some 40), .load 1 false (t_ 39), (some (32, true)), false⟩,
 ⟨(some 41), .call (.func 71) [(t_ 36), (t_ 40)], (some (32, true)), false⟩,
 ⟨(some 42), .un .not (t_ 41), (some (32, true)), false⟩,
 (q_ 43 (.pick (t_ 32) (t_ 42) (.const (.bool false))))]
def ac72_L2 : AC :=
 .seq (.seq (.region true ((q_ 29 (.move (t_ 9))) :: (q_ 30 (.move (t_ 10))) :: (q_ 31 (.bin .leq 3 (t_ 29) (t_ 30))) :: (q_ 32 (.move (t_ 31))) :: (ac72_G1 ++ [])))
 (.cond (t_ 43)
 (.skip)
 (.exit 2)))
 (.block 3 (.region false [(q_ 44 (.move (t_ 9))),
 (q_ 45 (.bin .add 3 (t_ 44) (k_ 1))),
 (q_ 9 (.move (t_ 45)))]))
def ac72_G2 : List AOper :=
 [⟨(some 50), .move (t_ 0), (some (49, true)), false⟩,
 ⟨(some 51), .move (t_ 1), (some (49, true)), false⟩,
 ⟨(some 52), .iaddr 1 (t_ 50) (t_ 51), (some (49, true)), false⟩,
 ⟨(some 53), .load 1 false (t_ 52), (some (49, true)), false⟩,
 ⟨(some 54), .move (t_ 0), (some (49, true)), false⟩,
 ⟨(some 55), .move (t_ 10), (some (49, true)), false⟩,
 ⟨(some 56), .iaddr 1 (t_ 54) (t_ 55), (some (49, true)), false⟩,
 ⟨(some 57), .load 1 false (t_ 56), (some (49, true)), false⟩,
 ⟨(some 58), .call (.func 71) [(t_ 53), (t_ 57)], (some (49, true)), false⟩,
 (q_ 59 (.pick (t_ 49) (t_ 58) (.const (.bool false))))]
def ac72_L3 : AC :=
 .seq (.seq (.region true ((q_ 46 (.move (t_ 9))) :: (q_ 47 (.move (t_ 10))) :: (q_ 48 (.bin .leq 3 (t_ 46) (t_ 47))) :: (q_ 49 (.move (t_ 48))) :: (ac72_G2 ++ [])))
 (.cond (t_ 59)
 (.skip)
 (.exit 4)))
 (.block 5 (.region false [(q_ 60 (.move (t_ 10))),
 (q_ 61 (.bin .sub 3 (t_ 60) (k_ 1))),
 (q_ 10 (.move (t_ 61)))]))
def ac72_L1 : AC :=
 .block 1 (.seq (.block 2 (.loop ac72_L2))
 (.seq (.block 4 (.loop ac72_L3))
 (.seq (.seq (.region false [(q_ 62 (.move (t_ 9))),
 (q_ 63 (.move (t_ 10))),
 (q_ 64 (.bin .gtr 3 (t_ 62) (t_ 63)))])
 (.cond (t_ 64)
 (.exit 0)
 (.skip)))
 (.seq (.region true [(q_ 65 (.move (t_ 0))),
 (q_ 66 (.move (t_ 9))),
 ⟨(some 67), .move (t_ 0), none, true⟩,
 ⟨(some 68), .move (t_ 10), none, true⟩,
 (q_ 69 (.move (t_ 0))),
 (q_ 70 (.move (t_ 10))),
 (q_ 71 (.iaddr 1 (t_ 69) (t_ 70))),
 (q_ 72 (.load 1 false (t_ 71))),
 (q_ 73 (.move (t_ 0))),
 (q_ 74 (.move (t_ 9))),
 (q_ 75 (.iaddr 1 (t_ 73) (t_ 74))),
 (q_ 76 (.load 1 false (t_ 75))),
 (q_ 77 (.iaddr 1 (t_ 65) (t_ 66))),
 ⟨none, .store 1 (t_ 77) (t_ 72), none, false⟩,
 (q_ 78 (.iaddr 1 (t_ 67) (t_ 68))),
 ⟨none, .store 1 (t_ 78) (t_ 76), none, false⟩])
 (.seq (.region false [(q_ 79 (.move (t_ 9))),
 (q_ 80 (.bin .add 3 (t_ 79) (k_ 1))),
 (q_ 9 (.move (t_ 80)))])
 (.region false [(q_ 81 (.move (t_ 10))),
 (q_ 82 (.bin .sub 3 (t_ 81) (k_ 1))),
 (q_ 10 (.move (t_ 82)))]))))))
/-- slices.partitionEqualOrdered[int] -/
def ac72 : AC :=
 .seq (.region false [(q_ 8 (.move (k_ 0)))])
 (.seq (.region true [(q_ 11 (.move (t_ 0))),
 (q_ 12 (.move (t_ 1))),
 ⟨(some 13), .move (t_ 0), none, true⟩,
 ⟨(some 14), .move (t_ 3), none, true⟩,
 (q_ 15 (.move (t_ 0))),
 (q_ 16 (.move (t_ 3))),
 (q_ 17 (.iaddr 1 (t_ 15) (t_ 16))),
 (q_ 18 (.load 1 false (t_ 17))),
 (q_ 19 (.move (t_ 0))),
 (q_ 20 (.move (t_ 1))),
 (q_ 21 (.iaddr 1 (t_ 19) (t_ 20))),
 (q_ 22 (.load 1 false (t_ 21))),
 (q_ 23 (.iaddr 1 (t_ 11) (t_ 12))),
 ⟨none, .store 1 (t_ 23) (t_ 18), none, false⟩,
 (q_ 24 (.iaddr 1 (t_ 13) (t_ 14))),
 ⟨none, .store 1 (t_ 24) (t_ 22), none, false⟩])
 (.seq (.region false [(q_ 25 (.move (t_ 1))),
 (q_ 26 (.bin .add 3 (t_ 25) (k_ 1))),
 (q_ 27 (.move (t_ 2))),
 (q_ 28 (.bin .sub 3 (t_ 27) (k_ 1))),
 (q_ 9 (.move (t_ 26))),
 (q_ 10 (.move (t_ 28)))])
 (.seq (.block 0 (.loop ac72_L1))
 (.seq (.region false [(q_ 83 (.move (t_ 9))),
 (q_ 8 (.move (t_ 83)))])
 (.ret)))))
theorem text72 : FnText Try.prog 72 [] 84 4 ac72 [(8, none)] :=
 ⟨Try.call72, follows, Try.f72, _, Try.func72, rfl, rfl, by decide, by kernel_rfl, by kernel_rfl⟩

def ac73_G1 : List AOper :=
 [⟨(some 34), .move (t_ 0), (some (33, true)), false⟩,
 ⟨(some 35), .move (t_ 10), (some (33, true)), false⟩,
 ⟨(some 36), .iaddr 1 (t_ 34) (t_ 35), (some (33, true)), false⟩,
 ⟨(some 37), .load 1 false (t_ 36), (some (33, true)), false⟩,
 ⟨(some 38), .move (t_ 0), (some (33, true)), false⟩,
 ⟨(some 39), .move (t_ 1), (some (33, true)), false⟩,
 ⟨(some 40), .iaddr 1 (t_ 38) (t_ 39), (some (33, true)), false⟩,
 ⟨(some 41), .load 1 false (t_ 40), (some (33, true)), false⟩,
 ⟨(some 42), .call (.func 71) [(t_ 37), (t_ 41)], (some (33, true)), false⟩,
 (q_ 43 (.pick (t_ 33) (t_ 42) (.const (.bool false))))]
def ac73_L1 : AC :=
 .seq (.seq (.region true ((q_ 30 (.move (t_ 10))) :: (q_ 31 (.move (t_ 11))) :: (q_ 32 (.bin .leq 3 (t_ 30) (t_ 31))) :: (q_ 33 (.move (t_ 32))) :: (ac73_G1 ++ [])))
 (.cond (t_ 43)
 (.skip)
 (.exit 0)))
 (.block 1 (.region false [(q_ 44 (.move (t_ 10))),
 (q_ 45 (.bin .add 3 (t_ 44) (k_ 1))),
 (q_ 10 (.move (t_ 45)))]))
def ac73_G2 : List AOper :=
 [⟨(some 50), .move (t_ 0), (some (49, true)), false⟩,
 ⟨(some 51), .move (t_ 11), (some (49, true)), false⟩,
 ⟨(some 52), .iaddr 1 (t_ 50) (t_ 51), (some (49, true)), false⟩,
 ⟨(some 53), .load 1 false (t_ 52), (some (49, true)), false⟩,
 ⟨(some 54), .move (t_ 0), (some (49, true)), false⟩,
 ⟨(some 55), .move (t_ 1), (some (49, true)), false⟩,
 ⟨(some 56), .iaddr 1 (t_ 54) (t_ 55), (some (49, true)), false⟩,
 ⟨(some 57), .load 1 false (t_ 56), (some (49, true)), false⟩,
 ⟨(some 58), .call (.func 71) [(t_ 53), (t_ 57)], (some (49, true)), false⟩,
 ⟨(some 59), .un .not (t_ 58), (some (49, true)), false⟩,
 (q_ 60 (.pick (t_ 49) (t_ 59) (.const (.bool false))))]
def ac73_L2 : AC :=
 .seq (.seq (.region true ((q_ 46 (.move (t_ 10))) :: (q_ 47 (.move (t_ 11))) :: (q_ 48 (.bin .leq 3 (t_ 46) (t_ 47))) :: (q_ 49 (.move (t_ 48))) :: (ac73_G2 ++ [])))
 (.cond (t_ 60)
 (.skip)
 (.exit 2)))
 (.block 3 (.region false [(q_ 61 (.move (t_ 11))),
 (q_ 62 (.bin .sub 3 (t_ 61) (k_ 1))),
 (q_ 11 (.move (t_ 62)))]))
def ac73_G3 : List AOper :=
 [⟨(some 103), .move (t_ 0), (some (102, true)), false⟩,
 ⟨(some 104), .move (t_ 10), (some (102, true)), false⟩,
 ⟨(some 105), .iaddr 1 (t_ 103) (t_ 104), (some (102, true)), false⟩,
 ⟨(some 106), .load 1 false (t_ 105), (some (102, true)), false⟩,
 ⟨(some 107), .move (t_ 0), (some (102, true)), false⟩,
 ⟨(some 108), .move (t_ 1), (some (102, true)), false⟩,
 ⟨(some 109), .iaddr 1 (t_ 107) (t_ 108), (some (102, true)), false⟩,
 ⟨(some 110), .load 1 false (t_ 109), (some (102, true)), false⟩,
 ⟨(some 111), .call (.func 71) [(t_ 106), (t_ 110)], (some (102, true)), false⟩,
 (q_ 112 (.pick (t_ 102) (t_ 111) (.const (.bool false))))]
def ac73_L4 : AC :=
 .seq (.seq (.region true ((q_ 99 (.move (t_ 10))) :: (q_ 100 (.move (t_ 11))) :: (q_ 101 (.bin .leq 3 (t_ 99) (t_ 100))) :: (q_ 102 (.move (t_ 101))) :: (ac73_G3 ++ [])))
 (.cond (t_ 112)
 (.skip)
 (.exit 6)))
 (.block 7 (.region false [(q_ 113 (.move (t_ 10))),
 (q_ 114 (.bin .add 3 (t_ 113) (k_ 1))),
 (q_ 10 (.move (t_ 114)))]))
def ac73_G4 : List AOper :=
 [⟨(some 119), .move (t_ 0), (some (118, true)), false⟩,
 ⟨(some 120), .move (t_ 11), (some (118, true)), false⟩,
 ⟨(some 121), .iaddr 1 (t_ 119) (t_ 120), (some (118, true)), false⟩,
 ⟨(some 122), .load 1 false (t_ 121), (some (118, true)), false⟩,
 ⟨(some 123), .move (t_ 0), (some (118, true)), false⟩,
 ⟨(some 124), .move (t_ 1), (some (118, true)), false⟩,
 ⟨(some 125), .iaddr 1 (t_ 123) (t_ 124), (some (118, true)), false⟩,
 ⟨(some 126), .load 1 false (t_ 125), (some (118, true)), false⟩,
 ⟨(some 127), .call (.func 71) [(t_ 122), (t_ 126)], (some (118, true)), false⟩,
 ⟨(some 128), .un .not (t_ 127), (some (118, true)), false⟩,
 (q_ 129 (.pick (t_ 118) (t_ 128) (.const (.bool false))))]
def ac73_L5 : AC :=
 .seq (.seq (.region true ((q_ 115 (.move (t_ 10))) :: (q_ 116 (.move (t_ 11))) :: (q_ 117 (.bin .leq 3 (t_ 115) (t_ 116))) :: (q_ 118 (.move (t_ 117))) :: (ac73_G4 ++ [])))
 (.cond (t_ 129)
 (.skip)
 (.exit 8)))
 (.block 9 (.region false [(q_ 130 (.move (t_ 11))),
 (q_ 131 (.bin .sub 3 (t_ 130) (k_ 1))),
 (q_ 11 (.move (t_ 131)))]))
def ac73_L3 : AC :=
 .block 5 (.seq (.block 6 (.loop ac73_L4))
 (.seq (.block 8 (.loop ac73_L5))
 (.seq (.seq (.region false [(q_ 132 (.move (t_ 10))),
 (q_ 133 (.move (t_ 11))),
 (q_ 134 (.bin .gtr 3 (t_ 132) (t_ 133)))])
 (.cond (t_ 134)
 (.exit 4)
 (.skip)))
 (.seq (.region true [(q_ 135 (.move (t_ 0))),
 (q_ 136 (.move (t_ 10))),
 ⟨(some 137), .move (t_ 0), none, true⟩,
 ⟨(some 138), .move (t_ 11), none, true⟩,
 (q_ 139 (.move (t_ 0))),
 (q_ 140 (.move (t_ 11))),
 (q_ 141 (.iaddr 1 (t_ 139) (t_ 140))),
 (q_ 142 (.load 1 false (t_ 141))),
 (q_ 143 (.move (t_ 0))),
 (q_ 144 (.move (t_ 10))),
 (q_ 145 (.iaddr 1 (t_ 143) (t_ 144))),
 (q_ 146 (.load 1 false (t_ 145))),
 (q_ 147 (.iaddr 1 (t_ 135) (t_ 136))),
 ⟨none, .store 1 (t_ 147) (t_ 142), none, false⟩,
 (q_ 148 (.iaddr 1 (t_ 137) (t_ 138))),
 ⟨none, .store 1 (t_ 148) (t_ 146), none, false⟩])
 (.seq (.region false [(q_ 149 (.move (t_ 10))),
 (q_ 150 (.bin .add 3 (t_ 149) (k_ 1))),
 (q_ 10 (.move (t_ 150)))])
 (.region false [(q_ 151 (.move (t_ 11))),
 (q_ 152 (.bin .sub 3 (t_ 151) (k_ 1))),
 (q_ 11 (.move (t_ 152)))]))))))
/-- slices.partitionOrdered[int] -/
def ac73 : AC :=
 .seq (.region false [(q_ 8 (.move (k_ 0))),
 (q_ 9 (.move (.const (.bool false))))])
 (.seq (.region true [(q_ 12 (.move (t_ 0))),
 (q_ 13 (.move (t_ 1))),
 ⟨(some 14), .move (t_ 0), none, true⟩,
 ⟨(some 15), .move (t_ 3), none, true⟩,
 (q_ 16 (.move (t_ 0))),
 (q_ 17 (.move (t_ 3))),
 (q_ 18 (.iaddr 1 (t_ 16) (t_ 17))),
 (q_ 19 (.load 1 false (t_ 18))),
 (q_ 20 (.move (t_ 0))),
 (q_ 21 (.move (t_ 1))),
 (q_ 22 (.iaddr 1 (t_ 20) (t_ 21))),
 (q_ 23 (.load 1 false (t_ 22))),
 (q_ 24 (.iaddr 1 (t_ 12) (t_ 13))),
 ⟨none, .store 1 (t_ 24) (t_ 19), none, false⟩,
 (q_ 25 (.iaddr 1 (t_ 14) (t_ 15))),
 ⟨none, .store 1 (t_ 25) (t_ 23), none, false⟩])
 (.seq (.region false [(q_ 26 (.move (t_ 1))),
 (q_ 27 (.bin .add 3 (t_ 26) (k_ 1))),
 (q_ 28 (.move (t_ 2))),
 (q_ 29 (.bin .sub 3 (t_ 28) (k_ 1))),
 (q_ 10 (.move (t_ 27))),
 (q_ 11 (.move (t_ 29)))])
 (.seq (.block 0 (.loop ac73_L1))
 (.seq (.block 2 (.loop ac73_L2))
 (.seq (.seq (.region false [(q_ 63 (.move (t_ 10))),
 (q_ 64 (.move (t_ 11))),
 (q_ 65 (.bin .gtr 3 (t_ 63) (t_ 64)))])
 (.cond (t_ 65)
 (.seq (.region true [(q_ 66 (.move (t_ 0))),
 (q_ 67 (.move (t_ 11))),
 ⟨(some 68), .move (t_ 0), none, true⟩,
 ⟨(some 69), .move (t_ 1), none, true⟩,
 (q_ 70 (.move (t_ 0))),
 (q_ 71 (.move (t_ 1))),
 (q_ 72 (.iaddr 1 (t_ 70) (t_ 71))),
 (q_ 73 (.load 1 false (t_ 72))),
 (q_ 74 (.move (t_ 0))),
 (q_ 75 (.move (t_ 11))),
 (q_ 76 (.iaddr 1 (t_ 74) (t_ 75))),
 (q_ 77 (.load 1 false (t_ 76))),
 (q_ 78 (.iaddr 1 (t_ 66) (t_ 67))),
 ⟨none, .store 1 (t_ 78) (t_ 73), none, false⟩,
 (q_ 79 (.iaddr 1 (t_ 68) (t_ 69))),
 ⟨none, .store 1 (t_ 79) (t_ 77), none, false⟩])
 (.seq (.region false [(q_ 80 (.move (t_ 11))),
 (q_ 8 (.move (t_ 80))),
 (q_ 9 (.move (.const (.bool true))))])
 (.ret)))
 (.skip)))
 (.seq (.region true [(q_ 81 (.move (t_ 0))),
 (q_ 82 (.move (t_ 10))),
 ⟨(some 83), .move (t_ 0), none, true⟩,
 ⟨(some 84), .move (t_ 11), none, true⟩,
 (q_ 85 (.move (t_ 0))),
 (q_ 86 (.move (t_ 11))),
 (q_ 87 (.iaddr 1 (t_ 85) (t_ 86))),
 (q_ 88 (.load 1 false (t_ 87))),
 (q_ 89 (.move (t_ 0))),
 (q_ 90 (.move (t_ 10))),
 (q_ 91 (.iaddr 1 (t_ 89) (t_ 90))),
 (q_ 92 (.load 1 false (t_ 91))),
 (q_ 93 (.iaddr 1 (t_ 81) (t_ 82))),
 ⟨none, .store 1 (t_ 93) (t_ 88), none, false⟩,
 (q_ 94 (.iaddr 1 (t_ 83) (t_ 84))),
 ⟨none, .store 1 (t_ 94) (t_ 92), none, false⟩])
 (.seq (.region false [(q_ 95 (.move (t_ 10))),
 (q_ 96 (.bin .add 3 (t_ 95) (k_ 1))),
 (q_ 10 (.move (t_ 96)))])
 (.seq (.region false [(q_ 97 (.move (t_ 11))),
 (q_ 98 (.bin .sub 3 (t_ 97) (k_ 1))),
 (q_ 11 (.move (t_ 98)))])
 (.seq (.block 4 (.loop ac73_L3))
 (.seq (.region true [(q_ 153 (.move (t_ 0))),
 (q_ 154 (.move (t_ 11))),
 ⟨(some 155), .move (t_ 0), none, true⟩,
 ⟨(some 156), .move (t_ 1), none, true⟩,
 (q_ 157 (.move (t_ 0))),
 (q_ 158 (.move (t_ 1))),
 (q_ 159 (.iaddr 1 (t_ 157) (t_ 158))),
 (q_ 160 (.load 1 false (t_ 159))),
 (q_ 161 (.move (t_ 0))),
 (q_ 162 (.move (t_ 11))),
 (q_ 163 (.iaddr 1 (t_ 161) (t_ 162))),
 (q_ 164 (.load 1 false (t_ 163))),
 (q_ 165 (.iaddr 1 (t_ 153) (t_ 154))),
 ⟨none, .store 1 (t_ 165) (t_ 160), none, false⟩,
 (q_ 166 (.iaddr 1 (t_ 155) (t_ 156))),
 ⟨none, .store 1 (t_ 166) (t_ 164), none, false⟩])
 (.seq (.region false [(q_ 167 (.move (t_ 11))),
 (q_ 8 (.move (t_ 167))),
 (q_ 9 (.move (.const (.bool false))))])
 (.ret))))))))))))
theorem text73 : FnText Try.prog 73 [] 168 4 ac73 [(8, none), (9, none)] :=
 ⟨Try.call73, follows, Try.f73, _, Try.func73, rfl, rfl, by decide, by kernel_rfl, by kernel_rfl⟩

def ac14_L1 : AC :=
 .seq (.seq (.region false [(q_ 11 (.move (t_ 5))),
 (q_ 12 (.move (t_ 0))),
 (q_ 13 (.bi .len [29].toArray 3 [(t_ 12)])),
 (q_ 14 (.bin .lss 3 (t_ 11) (t_ 13)))])
 (.cond (t_ 14)
 (.skip)
 (.exit 0)))
 (.seq (.block 1 (.seq (.region true [(q_ 17 (.move (t_ 0))),
 (q_ 18 (.move (t_ 5))),
 (q_ 19 (.iaddr 1 (t_ 17) (t_ 18))),
 (q_ 20 (.load 1 false (t_ 19))),
 (q_ 21 (.move (t_ 1))),
 (q_ 22 (.move (t_ 5))),
 (q_ 23 (.iaddr 1 (t_ 21) (t_ 22))),
 (q_ 24 (.load 1 false (t_ 23))),
 (q_ 25 (.bin .neq 3 (t_ 20) (t_ 24)))])
 (.cond (t_ 25)
 (.seq (.region false [(q_ 4 (.move (.const (.bool false))))])
 (.ret))
 (.skip))))
 (.region false [(q_ 15 (.move (t_ 5))),
 (q_ 16 (.bin .add 3 (t_ 15) (k_ 1))),
 (q_ 5 (.move (t_ 16)))]))
/-- patchbay/patchbayref02.EqualInts -/
def ac14 : AC :=
 .seq (.region false [(q_ 4 (.move (.const (.bool false))))])
 (.seq (.seq (.region false [(q_ 6 (.move (t_ 0))),
 (q_ 7 (.bi .len [29].toArray 3 [(t_ 6)])),
 (q_ 8 (.move (t_ 1))),
 (q_ 9 (.bi .len [29].toArray 3 [(t_ 8)])),
 (q_ 10 (.bin .neq 3 (t_ 7) (t_ 9)))])
 (.cond (t_ 10)
 (.seq (.region false [(q_ 4 (.move (.const (.bool false))))])
 (.ret))
 (.skip)))
 (.seq (.seq (.region false [(q_ 5 (.move (k_ 0)))])
 (.block 0 (.loop ac14_L1)))
 (.seq (.region false [(q_ 4 (.move (.const (.bool true))))])
 (.ret))))
theorem text14 : FnText Try.prog 14 [] 26 2 ac14 [(4, none)] :=
 ⟨Try.call14, follows, Try.f14, _, Try.func14, rfl, rfl, by decide, by kernel_rfl, by kernel_rfl⟩

end Go.Proofs.Ytnejfbehaembkaa
