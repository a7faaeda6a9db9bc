/-
 The text of each function of this seat, as the plain library tells it; each by the kernel's own reckoning from the program.
-/
import Derived.Test.YtfekghenlhoamaaL4TextA
set_option linter.unusedVariables false
set_option maxRecDepth 100000
namespace Go.Proofs.Ytfekghenlhoamaa
open Go Go.Pb
def ac76_G1 : List AOper :=
 [⟨(some 22), .move (.tmp 0), (some (21, true)), false⟩,
 ⟨(some 23), .move (.tmp 3), (some (21, true)), false⟩,
 ⟨(some 24), .move (.tmp 9), (some (21, true)), false⟩,
 ⟨(some 25), .bin .add 3 (.tmp 23) (.tmp 24), (some (21, true)), false⟩,
 ⟨(some 26), .iaddr 1 (.tmp 22) (.tmp 25), (some (21, true)), false⟩,
 ⟨(some 27), .load 1 false (.tmp 26), (some (21, true)), false⟩,
 ⟨(some 28), .move (.tmp 0), (some (21, true)), false⟩,
 ⟨(some 29), .move (.tmp 3), (some (21, true)), false⟩,
 ⟨(some 30), .move (.tmp 9), (some (21, true)), false⟩,
 ⟨(some 31), .bin .add 3 (.tmp 29) (.tmp 30), (some (21, true)), false⟩,
 ⟨(some 32), .bin .add 3 (.tmp 31) (.const (.int .i64 1)), (some (21, true)), false⟩,
 ⟨(some 33), .iaddr 1 (.tmp 28) (.tmp 32), (some (21, true)), false⟩,
 ⟨(some 34), .load 1 false (.tmp 33), (some (21, true)), false⟩,
 ⟨(some 35), .call (.func 67) [(.tmp 27), (.tmp 34)], (some (21, true)), false⟩,
 ⟨(some 36), .pick (.tmp 21) (.tmp 35) (.const (.bool false)), none, false⟩]
def ac76_L1 : AC :=
 .block 1 (.seq (.region false [⟨(some 11), .move (.tmp 8), none, false⟩,
 ⟨(some 12), .bin .mul 3 (.const (.int .i64 2)) (.tmp 11), none, false⟩,
 ⟨(some 13), .bin .add 3 (.tmp 12) (.const (.int .i64 1)), none, false⟩,
 ⟨(some 9), .move (.tmp 13), none, false⟩])
 (.seq (.seq (.region false [⟨(some 14), .move (.tmp 9), none, false⟩,
 ⟨(some 15), .move (.tmp 2), none, false⟩,
 ⟨(some 16), .bin .geq 3 (.tmp 14) (.tmp 15), none, false⟩])
 (.cond (.tmp 16)
 (.exit 0)
 (.skip)))
 (.seq (.seq (.region true (⟨(some 17), .move (.tmp 9), none, false⟩ :: ⟨(some 18), .bin .add 3 (.tmp 17) (.const (.int .i64 1)), none, false⟩ :: ⟨(some 19), .move (.tmp 2), none, false⟩ :: ⟨(some 20), .bin .lss 3 (.tmp 18) (.tmp 19), none, false⟩ :: ⟨(some 21), .move (.tmp 20), none, false⟩ :: (ac76_G1 ++ [])))
 (.cond (.tmp 36)
 (.region false [⟨(some 37), .move (.tmp 9), none, false⟩,
 ⟨(some 38), .bin .add 3 (.tmp 37) (.const (.int .i64 1)), none, false⟩,
 ⟨(some 9), .move (.tmp 38), none, false⟩])
 (.skip)))
 (.seq (.seq (.region true [⟨(some 39), .move (.tmp 0), none, false⟩,
 ⟨(some 40), .move (.tmp 3), none, false⟩,
 ⟨(some 41), .move (.tmp 8), none, false⟩,
 ⟨(some 42), .bin .add 3 (.tmp 40) (.tmp 41), none, false⟩,
 ⟨(some 43), .iaddr 1 (.tmp 39) (.tmp 42), none, false⟩,
 ⟨(some 44), .load 1 false (.tmp 43), none, false⟩,
 ⟨(some 45), .move (.tmp 0), none, false⟩,
 ⟨(some 46), .move (.tmp 3), none, false⟩,
 ⟨(some 47), .move (.tmp 9), none, false⟩,
 ⟨(some 48), .bin .add 3 (.tmp 46) (.tmp 47), none, false⟩,
 ⟨(some 49), .iaddr 1 (.tmp 45) (.tmp 48), none, false⟩,
 ⟨(some 50), .load 1 false (.tmp 49), none, false⟩,
 ⟨(some 51), .call (.func 67) [(.tmp 44), (.tmp 50)], none, false⟩,
 ⟨(some 52), .un .not (.tmp 51), none, false⟩])
 (.cond (.tmp 52)
 (.ret)
 (.skip)))
 (.seq (.region true [⟨(some 53), .move (.tmp 0), none, false⟩,
 ⟨(some 54), .move (.tmp 3), none, false⟩,
 ⟨(some 55), .move (.tmp 8), none, false⟩,
 ⟨(some 56), .bin .add 3 (.tmp 54) (.tmp 55), none, false⟩,
 ⟨(some 57), .move (.tmp 0), none, true⟩,
 ⟨(some 58), .move (.tmp 3), none, true⟩,
 ⟨(some 59), .move (.tmp 9), none, true⟩,
 ⟨(some 60), .bin .add 3 (.tmp 58) (.tmp 59), none, true⟩,
 ⟨(some 61), .move (.tmp 0), none, false⟩,
 ⟨(some 62), .move (.tmp 3), none, false⟩,
 ⟨(some 63), .move (.tmp 9), none, false⟩,
 ⟨(some 64), .bin .add 3 (.tmp 62) (.tmp 63), none, false⟩,
 ⟨(some 65), .iaddr 1 (.tmp 61) (.tmp 64), none, false⟩,
 ⟨(some 66), .load 1 false (.tmp 65), none, false⟩,
 ⟨(some 67), .move (.tmp 0), none, false⟩,
 ⟨(some 68), .move (.tmp 3), none, false⟩,
 ⟨(some 69), .move (.tmp 8), none, false⟩,
 ⟨(some 70), .bin .add 3 (.tmp 68) (.tmp 69), none, false⟩,
 ⟨(some 71), .iaddr 1 (.tmp 67) (.tmp 70), none, false⟩,
 ⟨(some 72), .load 1 false (.tmp 71), none, false⟩,
 ⟨(some 73), .iaddr 1 (.tmp 53) (.tmp 56), none, false⟩,
 ⟨none, .store 1 (.tmp 73) (.tmp 66), none, false⟩,
 ⟨(some 74), .iaddr 1 (.tmp 57) (.tmp 60), none, false⟩,
 ⟨none, .store 1 (.tmp 74) (.tmp 72), none, false⟩])
 (.region false [⟨(some 75), .move (.tmp 9), none, false⟩,
 ⟨(some 8), .move (.tmp 75), none, false⟩]))))))
/-- slices.siftDownOrdered[int] -/
def ac76 : AC :=
 .seq (.region false [⟨(some 10), .move (.tmp 1), none, false⟩,
 ⟨(some 8), .move (.tmp 10), none, false⟩])
 (.block 0 (.loop ac76_L1))
theorem text76 : FnText Try.prog 76 [] 76 4 ac76 [] :=
 ⟨Try.call76, follows, Try.f76, _, Try.func76, rfl, rfl, by decide, by kernel_rfl, by kernel_rfl⟩

def ac63_L1 : AC :=
 .seq (.seq (.region false [⟨(some 26), .move (.tmp 9), none, false⟩,
 ⟨(some 27), .move (.tmp 1), none, false⟩,
 ⟨(some 28), .move (.tmp 6), none, false⟩,
 ⟨(some 29), .bin .quo 3 (.tmp 28) (.const (.int .i64 4)), none, false⟩,
 ⟨(some 30), .bin .mul 3 (.tmp 29) (.const (.int .i64 2)), none, false⟩,
 ⟨(some 31), .bin .add 3 (.tmp 27) (.tmp 30), none, false⟩,
 ⟨(some 32), .bin .add 3 (.tmp 31) (.const (.int .i64 1)), none, false⟩,
 ⟨(some 33), .bin .leq 3 (.tmp 26) (.tmp 32), none, false⟩])
 (.cond (.tmp 33)
 (.skip)
 (.exit 0)))
 (.seq (.block 1 (.seq (.region false [⟨(some 36), .call (.func 73) [(.tmp 7)], none, false⟩,
 ⟨(some 37), .move (.tmp 8), none, false⟩,
 ⟨(some 38), .bin .sub 97 (.tmp 37) (.const (.int .u64 1)), none, false⟩,
 ⟨(some 39), .bin .and 97 (.tmp 36) (.tmp 38), none, false⟩,
 ⟨(some 40), .conv 97 3 (.tmp 39), none, false⟩,
 ⟨(some 10), .move (.tmp 40), none, false⟩])
 (.seq (.seq (.region false [⟨(some 41), .move (.tmp 10), none, false⟩,
 ⟨(some 42), .move (.tmp 6), none, false⟩,
 ⟨(some 43), .bin .geq 3 (.tmp 41) (.tmp 42), none, false⟩])
 (.cond (.tmp 43)
 (.region false [⟨(some 44), .move (.tmp 10), none, false⟩,
 ⟨(some 45), .move (.tmp 6), none, false⟩,
 ⟨(some 46), .bin .sub 3 (.tmp 44) (.tmp 45), none, false⟩,
 ⟨(some 10), .move (.tmp 46), none, false⟩])
 (.skip)))
 (.region true [⟨(some 47), .move (.tmp 0), none, false⟩,
 ⟨(some 48), .move (.tmp 9), none, false⟩,
 ⟨(some 49), .move (.tmp 0), none, true⟩,
 ⟨(some 50), .move (.tmp 1), none, true⟩,
 ⟨(some 51), .move (.tmp 10), none, true⟩,
 ⟨(some 52), .bin .add 3 (.tmp 50) (.tmp 51), none, true⟩,
 ⟨(some 53), .move (.tmp 0), none, false⟩,
 ⟨(some 54), .move (.tmp 1), none, false⟩,
 ⟨(some 55), .move (.tmp 10), none, false⟩,
 ⟨(some 56), .bin .add 3 (.tmp 54) (.tmp 55), none, false⟩,
 ⟨(some 57), .iaddr 1 (.tmp 53) (.tmp 56), none, false⟩,
 ⟨(some 58), .load 1 false (.tmp 57), none, false⟩,
 ⟨(some 59), .move (.tmp 0), none, false⟩,
 ⟨(some 60), .move (.tmp 9), none, false⟩,
 ⟨(some 61), .iaddr 1 (.tmp 59) (.tmp 60), none, false⟩,
 ⟨(some 62), .load 1 false (.tmp 61), none, false⟩,
 ⟨(some 63), .iaddr 1 (.tmp 47) (.tmp 48), none, false⟩,
 ⟨none, .store 1 (.tmp 63) (.tmp 58), none, false⟩,
 ⟨(some 64), .iaddr 1 (.tmp 49) (.tmp 52), none, false⟩,
 ⟨none, .store 1 (.tmp 64) (.tmp 62), none, false⟩]))))
 (.region false [⟨(some 34), .move (.tmp 9), none, false⟩,
 ⟨(some 35), .bin .add 3 (.tmp 34) (.const (.int .i64 1)), none, false⟩,
 ⟨(some 9), .move (.tmp 35), none, false⟩]))
/-- slices.breakPatternsOrdered[int] -/
def ac63 : AC :=
 .seq (.region false [⟨(some 11), .move (.tmp 2), none, false⟩,
 ⟨(some 12), .move (.tmp 1), none, false⟩,
 ⟨(some 13), .bin .sub 3 (.tmp 11) (.tmp 12), none, false⟩,
 ⟨(some 6), .move (.tmp 13), none, false⟩])
 (.seq (.region false [⟨(some 14), .move (.tmp 6), none, false⟩,
 ⟨(some 15), .bin .geq 3 (.tmp 14) (.const (.int .i64 8)), none, false⟩])
 (.cond (.tmp 15)
 (.seq (.region false [⟨(some 16), .move (.tmp 6), none, false⟩,
 ⟨(some 17), .conv 3 129 (.tmp 16), none, false⟩,
 ⟨(some 7), .alloc true 129 (.int .u64 0), none, false⟩,
 ⟨none, .store 1 (.tmp 7) (.tmp 17), none, false⟩])
 (.seq (.region false [⟨(some 18), .move (.tmp 6), none, false⟩,
 ⟨(some 19), .call (.func 72) [(.tmp 18)], none, false⟩,
 ⟨(some 8), .move (.tmp 19), none, false⟩])
 (.seq (.region false [⟨(some 20), .move (.tmp 1), none, false⟩,
 ⟨(some 21), .move (.tmp 6), none, false⟩,
 ⟨(some 22), .bin .quo 3 (.tmp 21) (.const (.int .i64 4)), none, false⟩,
 ⟨(some 23), .bin .mul 3 (.tmp 22) (.const (.int .i64 2)), none, false⟩,
 ⟨(some 24), .bin .add 3 (.tmp 20) (.tmp 23), none, false⟩,
 ⟨(some 25), .bin .sub 3 (.tmp 24) (.const (.int .i64 1)), none, false⟩,
 ⟨(some 9), .move (.tmp 25), none, false⟩])
 (.block 0 (.loop ac63_L1)))))
 (.skip)))
theorem text63 : FnText Try.prog 63 [7] 65 3 ac63 [] :=
 ⟨Try.call63, follows, Try.f63, _, Try.func63, rfl, rfl, by decide, by kernel_rfl, by kernel_rfl⟩


/-- slices.choosePivotOrdered[int] -/
def ac64 : AC :=
 .seq (.region false [⟨(some 6), .move (.const (.int .i64 0)), none, false⟩,
 ⟨(some 7), .move (.const (.int .i64 0)), none, false⟩])
 (.seq (.region false [⟨(some 13), .move (.tmp 2), none, false⟩,
 ⟨(some 14), .move (.tmp 1), none, false⟩,
 ⟨(some 15), .bin .sub 3 (.tmp 13) (.tmp 14), none, false⟩,
 ⟨(some 8), .move (.tmp 15), none, false⟩])
 (.seq (.region false [⟨(some 9), .alloc true 3 (.int .i64 0), none, false⟩])
 (.seq (.region false [⟨(some 16), .move (.tmp 1), none, false⟩,
 ⟨(some 17), .move (.tmp 8), none, false⟩,
 ⟨(some 18), .bin .quo 3 (.tmp 17) (.const (.int .i64 4)), none, false⟩,
 ⟨(some 19), .bin .mul 3 (.tmp 18) (.const (.int .i64 1)), none, false⟩,
 ⟨(some 20), .bin .add 3 (.tmp 16) (.tmp 19), none, false⟩,
 ⟨(some 10), .move (.tmp 20), none, false⟩])
 (.seq (.region false [⟨(some 21), .move (.tmp 1), none, false⟩,
 ⟨(some 22), .move (.tmp 8), none, false⟩,
 ⟨(some 23), .bin .quo 3 (.tmp 22) (.const (.int .i64 4)), none, false⟩,
 ⟨(some 24), .bin .mul 3 (.tmp 23) (.const (.int .i64 2)), none, false⟩,
 ⟨(some 25), .bin .add 3 (.tmp 21) (.tmp 24), none, false⟩,
 ⟨(some 11), .move (.tmp 25), none, false⟩])
 (.seq (.region false [⟨(some 26), .move (.tmp 1), none, false⟩,
 ⟨(some 27), .move (.tmp 8), none, false⟩,
 ⟨(some 28), .bin .quo 3 (.tmp 27) (.const (.int .i64 4)), none, false⟩,
 ⟨(some 29), .bin .mul 3 (.tmp 28) (.const (.int .i64 3)), none, false⟩,
 ⟨(some 30), .bin .add 3 (.tmp 26) (.tmp 29), none, false⟩,
 ⟨(some 12), .move (.tmp 30), none, false⟩])
 (.seq (.seq (.region false [⟨(some 31), .move (.tmp 8), none, false⟩,
 ⟨(some 32), .bin .geq 3 (.tmp 31) (.const (.int .i64 8)), none, false⟩])
 (.cond (.tmp 32)
 (.seq (.seq (.region false [⟨(some 33), .move (.tmp 8), none, false⟩,
 ⟨(some 34), .bin .geq 3 (.tmp 33) (.const (.int .i64 50)), none, false⟩])
 (.cond (.tmp 34)
 (.seq (.region false [⟨(some 35), .move (.tmp 0), none, false⟩,
 ⟨(some 36), .move (.tmp 10), none, false⟩,
 ⟨(some 37), .call (.func 77) [(.tmp 35), (.tmp 36), (.tmp 9)], none, false⟩,
 ⟨(some 10), .move (.tmp 37), none, false⟩])
 (.seq (.region false [⟨(some 38), .move (.tmp 0), none, false⟩,
 ⟨(some 39), .move (.tmp 11), none, false⟩,
 ⟨(some 40), .call (.func 77) [(.tmp 38), (.tmp 39), (.tmp 9)], none, false⟩,
 ⟨(some 11), .move (.tmp 40), none, false⟩])
 (.region false [⟨(some 41), .move (.tmp 0), none, false⟩,
 ⟨(some 42), .move (.tmp 12), none, false⟩,
 ⟨(some 43), .call (.func 77) [(.tmp 41), (.tmp 42), (.tmp 9)], none, false⟩,
 ⟨(some 12), .move (.tmp 43), none, false⟩])))
 (.skip)))
 (.region false [⟨(some 44), .move (.tmp 0), none, false⟩,
 ⟨(some 45), .move (.tmp 10), none, false⟩,
 ⟨(some 46), .move (.tmp 11), none, false⟩,
 ⟨(some 47), .move (.tmp 12), none, false⟩,
 ⟨(some 48), .call (.func 78) [(.tmp 44), (.tmp 45), (.tmp 46), (.tmp 47), (.tmp 9)], none, false⟩,
 ⟨(some 11), .move (.tmp 48), none, false⟩]))
 (.skip)))
 (.seq (.region false [⟨(some 49), .load 1 false (.tmp 9), none, false⟩])
 (.block 0 (.seq (.region false [⟨(some 52), .bin .eql 3 (.tmp 49) (.const (.int .i64 0)), none, false⟩,
 ⟨(some 51), .move (.tmp 52), none, false⟩])
 (.cond (.tmp 51)
 (.seq (.region false [⟨(some 53), .move (.tmp 11), none, false⟩,
 ⟨(some 6), .move (.tmp 53), none, false⟩,
 ⟨(some 7), .move (.const (.int .i64 1)), none, false⟩])
 (.ret))
 (.seq (.region false [⟨(some 55), .bin .eql 3 (.tmp 49) (.const (.int .i64 12)), none, false⟩,
 ⟨(some 54), .move (.tmp 55), none, false⟩])
 (.cond (.tmp 54)
 (.seq (.region false [⟨(some 56), .move (.tmp 11), none, false⟩,
 ⟨(some 6), .move (.tmp 56), none, false⟩,
 ⟨(some 7), .move (.const (.int .i64 2)), none, false⟩])
 (.ret))
 (.seq (.region false [⟨(some 50), .move (.tmp 11), none, false⟩,
 ⟨(some 6), .move (.tmp 50), none, false⟩,
 ⟨(some 7), .move (.const (.int .i64 0)), none, false⟩])
 (.ret))))))))))))))
theorem text64 : FnText Try.prog 64 [9] 57 3 ac64 [(6, none), (7, none)] :=
 ⟨Try.call64, follows, Try.f64, _, Try.func64, rfl, rfl, by decide, by kernel_rfl, by kernel_rfl⟩


/-- slices.medianAdjacentOrdered[int] -/
def ac77 : AC :=
 .seq (.region false [⟨(some 6), .move (.const (.int .i64 0)), none, false⟩])
 (.seq (.region false [⟨(some 7), .move (.tmp 0), none, false⟩,
 ⟨(some 8), .move (.tmp 1), none, false⟩,
 ⟨(some 9), .bin .sub 3 (.tmp 8) (.const (.int .i64 1)), none, false⟩,
 ⟨(some 10), .move (.tmp 1), none, false⟩,
 ⟨(some 11), .move (.tmp 1), none, false⟩,
 ⟨(some 12), .bin .add 3 (.tmp 11) (.const (.int .i64 1)), none, false⟩,
 ⟨(some 13), .move (.tmp 2), none, false⟩,
 ⟨(some 14), .call (.func 78) [(.tmp 7), (.tmp 9), (.tmp 10), (.tmp 12), (.tmp 13)], none, false⟩,
 ⟨(some 6), .move (.tmp 14), none, false⟩])
 (.ret))
theorem text77 : FnText Try.prog 77 [] 15 3 ac77 [(6, none)] :=
 ⟨Try.call77, follows, Try.f77, _, Try.func77, rfl, rfl, by decide, by kernel_rfl, by kernel_rfl⟩


/-- slices.medianOrdered[int] -/
def ac78 : AC :=
 .seq (.region false [⟨(some 10), .move (.const (.int .i64 0)), none, false⟩])
 (.seq (.region false [⟨(some 12), .move (.tmp 0), none, false⟩,
 ⟨(some 13), .move (.tmp 1), none, false⟩,
 ⟨(some 14), .move (.tmp 2), none, false⟩,
 ⟨(some 15), .move (.tmp 4), none, false⟩,
 ⟨(some 16), .call (.func 83) [(.tmp 12), (.tmp 13), (.tmp 14), (.tmp 15)], none, false⟩,
 ⟨(some 11), .move (.tmp 16), none, false⟩,
 ⟨(some 17), .extract (.tmp 11) 0, none, false⟩,
 ⟨(some 18), .extract (.tmp 11) 1, none, false⟩,
 ⟨(some 1), .move (.tmp 17), none, false⟩,
 ⟨(some 2), .move (.tmp 18), none, false⟩])
 (.seq (.region false [⟨(some 20), .move (.tmp 0), none, false⟩,
 ⟨(some 21), .move (.tmp 2), none, false⟩,
 ⟨(some 22), .move (.tmp 3), none, false⟩,
 ⟨(some 23), .move (.tmp 4), none, false⟩,
 ⟨(some 24), .call (.func 83) [(.tmp 20), (.tmp 21), (.tmp 22), (.tmp 23)], none, false⟩,
 ⟨(some 19), .move (.tmp 24), none, false⟩,
 ⟨(some 25), .extract (.tmp 19) 0, none, false⟩,
 ⟨(some 26), .extract (.tmp 19) 1, none, false⟩,
 ⟨(some 2), .move (.tmp 25), none, false⟩,
 ⟨(some 3), .move (.tmp 26), none, false⟩])
 (.seq (.region false [⟨(some 28), .move (.tmp 0), none, false⟩,
 ⟨(some 29), .move (.tmp 1), none, false⟩,
 ⟨(some 30), .move (.tmp 2), none, false⟩,
 ⟨(some 31), .move (.tmp 4), none, false⟩,
 ⟨(some 32), .call (.func 83) [(.tmp 28), (.tmp 29), (.tmp 30), (.tmp 31)], none, false⟩,
 ⟨(some 27), .move (.tmp 32), none, false⟩,
 ⟨(some 33), .extract (.tmp 27) 0, none, false⟩,
 ⟨(some 34), .extract (.tmp 27) 1, none, false⟩,
 ⟨(some 1), .move (.tmp 33), none, false⟩,
 ⟨(some 2), .move (.tmp 34), none, false⟩])
 (.seq (.region false [⟨(some 35), .move (.tmp 2), none, false⟩,
 ⟨(some 10), .move (.tmp 35), none, false⟩])
 (.ret)))))
theorem text78 : FnText Try.prog 78 [] 36 5 ac78 [(10, none)] :=
 ⟨Try.call78, follows, Try.f78, _, Try.func78, rfl, rfl, by decide, by kernel_rfl, by kernel_rfl⟩


/-- slices.order2Ordered[int] -/
def ac83 : AC :=
 .seq (.region false [⟨(some 8), .move (.const (.int .i64 0)), none, false⟩,
 ⟨(some 9), .move (.const (.int .i64 0)), none, false⟩])
 (.seq (.seq (.regionT [⟨(some 10), .move (.tmp 0), none, false⟩,
 ⟨(some 11), .move (.tmp 2), none, false⟩,
 ⟨(some 12), .iaddr 1 (.tmp 10) (.tmp 11), none, false⟩,
 ⟨(some 13), .load 1 false (.tmp 12), none, false⟩,
 ⟨(some 14), .move (.tmp 0), none, false⟩,
 ⟨(some 15), .move (.tmp 1), none, false⟩,
 ⟨(some 16), .iaddr 1 (.tmp 14) (.tmp 15), none, false⟩,
 ⟨(some 17), .load 1 false (.tmp 16), none, false⟩] ⟨(some 18), .call (.func 67) [(.tmp 13), (.tmp 17)], none, false⟩)
 (.cond (.tmp 18)
 (.seq (.region false [⟨(some 19), .move (.tmp 3), none, false⟩,
 ⟨(some 20), .nilCheck (.tmp 19), none, false⟩,
 ⟨(some 21), .load 1 false (.tmp 20), none, false⟩,
 ⟨(some 22), .bin .add 3 (.tmp 21) (.const (.int .i64 1)), none, false⟩,
 ⟨(some 23), .nilCheck (.tmp 19), none, false⟩,
 ⟨none, .store 1 (.tmp 23) (.tmp 22), none, false⟩])
 (.seq (.region false [⟨(some 24), .move (.tmp 2), none, false⟩,
 ⟨(some 25), .move (.tmp 1), none, false⟩,
 ⟨(some 8), .move (.tmp 24), none, false⟩,
 ⟨(some 9), .move (.tmp 25), none, false⟩])
 (.ret)))
 (.skip)))
 (.seq (.region false [⟨(some 26), .move (.tmp 1), none, false⟩,
 ⟨(some 27), .move (.tmp 2), none, false⟩,
 ⟨(some 8), .move (.tmp 26), none, false⟩,
 ⟨(some 9), .move (.tmp 27), none, false⟩])
 (.ret)))
theorem text83 : FnText Try.prog 83 [] 28 4 ac83 [(8, none), (9, none)] :=
 ⟨Try.call83, follows, Try.f83, _, Try.func83, rfl, rfl, by decide, by kernel_rfl, by kernel_rfl⟩

def ac65_L1 : AC :=
 .seq (.seq (.region false [⟨(some 11), .move (.tmp 6), none, false⟩,
 ⟨(some 12), .move (.tmp 7), none, false⟩,
 ⟨(some 13), .bin .lss 3 (.tmp 11) (.tmp 12), none, false⟩])
 (.cond (.tmp 13)
 (.skip)
 (.exit 0)))
 (.block 1 (.seq (.region true [⟨(some 14), .move (.tmp 0), none, false⟩,
 ⟨(some 15), .move (.tmp 6), none, false⟩,
 ⟨(some 16), .move (.tmp 0), none, true⟩,
 ⟨(some 17), .move (.tmp 7), none, true⟩,
 ⟨(some 18), .move (.tmp 0), none, false⟩,
 ⟨(some 19), .move (.tmp 7), none, false⟩,
 ⟨(some 20), .iaddr 1 (.tmp 18) (.tmp 19), none, false⟩,
 ⟨(some 21), .load 1 false (.tmp 20), none, false⟩,
 ⟨(some 22), .move (.tmp 0), none, false⟩,
 ⟨(some 23), .move (.tmp 6), none, false⟩,
 ⟨(some 24), .iaddr 1 (.tmp 22) (.tmp 23), none, false⟩,
 ⟨(some 25), .load 1 false (.tmp 24), none, false⟩,
 ⟨(some 26), .iaddr 1 (.tmp 14) (.tmp 15), none, false⟩,
 ⟨none, .store 1 (.tmp 26) (.tmp 21), none, false⟩,
 ⟨(some 27), .iaddr 1 (.tmp 16) (.tmp 17), none, false⟩,
 ⟨none, .store 1 (.tmp 27) (.tmp 25), none, false⟩])
 (.seq (.region false [⟨(some 28), .move (.tmp 6), none, false⟩,
 ⟨(some 29), .bin .add 3 (.tmp 28) (.const (.int .i64 1)), none, false⟩,
 ⟨(some 6), .move (.tmp 29), none, false⟩])
 (.region false [⟨(some 30), .move (.tmp 7), none, false⟩,
 ⟨(some 31), .bin .sub 3 (.tmp 30) (.const (.int .i64 1)), none, false⟩,
 ⟨(some 7), .move (.tmp 31), none, false⟩]))))
/-- slices.reverseRangeOrdered[int] -/
def ac65 : AC :=
 .seq (.region false [⟨(some 8), .move (.tmp 1), none, false⟩,
 ⟨(some 6), .move (.tmp 8), none, false⟩])
 (.seq (.region false [⟨(some 9), .move (.tmp 2), none, false⟩,
 ⟨(some 10), .bin .sub 3 (.tmp 9) (.const (.int .i64 1)), none, false⟩,
 ⟨(some 7), .move (.tmp 10), none, false⟩])
 (.block 0 (.loop ac65_L1)))
theorem text65 : FnText Try.prog 65 [] 32 3 ac65 [] :=
 ⟨Try.call65, follows, Try.f65, _, Try.func65, rfl, rfl, by decide, by kernel_rfl, by kernel_rfl⟩

def ac66_G1 : List AOper :=
 [⟨(some 21), .move (.tmp 0), (some (20, true)), false⟩,
 ⟨(some 22), .move (.tmp 7), (some (20, true)), false⟩,
 ⟨(some 23), .iaddr 1 (.tmp 21) (.tmp 22), (some (20, true)), false⟩,
 ⟨(some 24), .load 1 false (.tmp 23), (some (20, true)), false⟩,
 ⟨(some 25), .move (.tmp 0), (some (20, true)), false⟩,
 ⟨(some 26), .move (.tmp 7), (some (20, true)), false⟩,
 ⟨(some 27), .bin .sub 3 (.tmp 26) (.const (.int .i64 1)), (some (20, true)), false⟩,
 ⟨(some 28), .iaddr 1 (.tmp 25) (.tmp 27), (some (20, true)), false⟩,
 ⟨(some 29), .load 1 false (.tmp 28), (some (20, true)), false⟩,
 ⟨(some 30), .call (.func 67) [(.tmp 24), (.tmp 29)], (some (20, true)), false⟩,
 ⟨(some 31), .un .not (.tmp 30), (some (20, true)), false⟩,
 ⟨(some 32), .pick (.tmp 20) (.tmp 31) (.const (.bool false)), none, false⟩]
def ac66_L2 : AC :=
 .seq (.seq (.region true (⟨(some 17), .move (.tmp 7), none, false⟩ :: ⟨(some 18), .move (.tmp 2), none, false⟩ :: ⟨(some 19), .bin .lss 3 (.tmp 17) (.tmp 18), none, false⟩ :: ⟨(some 20), .move (.tmp 19), none, false⟩ :: (ac66_G1 ++ [])))
 (.cond (.tmp 32)
 (.skip)
 (.exit 2)))
 (.block 3 (.region false [⟨(some 33), .move (.tmp 7), none, false⟩,
 ⟨(some 34), .bin .add 3 (.tmp 33) (.const (.int .i64 1)), none, false⟩,
 ⟨(some 7), .move (.tmp 34), none, false⟩]))
def ac66_L3 : AC :=
 .seq (.seq (.region false [⟨(some 64), .move (.tmp 9), none, false⟩,
 ⟨(some 65), .bin .geq 3 (.tmp 64) (.const (.int .i64 1)), none, false⟩])
 (.cond (.tmp 65)
 (.skip)
 (.exit 4)))
 (.seq (.block 5 (.seq (.seq (.region true [⟨(some 68), .move (.tmp 0), none, false⟩,
 ⟨(some 69), .move (.tmp 9), none, false⟩,
 ⟨(some 70), .iaddr 1 (.tmp 68) (.tmp 69), none, false⟩,
 ⟨(some 71), .load 1 false (.tmp 70), none, false⟩,
 ⟨(some 72), .move (.tmp 0), none, false⟩,
 ⟨(some 73), .move (.tmp 9), none, false⟩,
 ⟨(some 74), .bin .sub 3 (.tmp 73) (.const (.int .i64 1)), none, false⟩,
 ⟨(some 75), .iaddr 1 (.tmp 72) (.tmp 74), none, false⟩,
 ⟨(some 76), .load 1 false (.tmp 75), none, false⟩,
 ⟨(some 77), .call (.func 67) [(.tmp 71), (.tmp 76)], none, false⟩,
 ⟨(some 78), .un .not (.tmp 77), none, false⟩])
 (.cond (.tmp 78)
 (.exit 4)
 (.skip)))
 (.region true [⟨(some 79), .move (.tmp 0), none, false⟩,
 ⟨(some 80), .move (.tmp 9), none, false⟩,
 ⟨(some 81), .move (.tmp 0), none, true⟩,
 ⟨(some 82), .move (.tmp 9), none, true⟩,
 ⟨(some 83), .bin .sub 3 (.tmp 82) (.const (.int .i64 1)), none, true⟩,
 ⟨(some 84), .move (.tmp 0), none, false⟩,
 ⟨(some 85), .move (.tmp 9), none, false⟩,
 ⟨(some 86), .bin .sub 3 (.tmp 85) (.const (.int .i64 1)), none, false⟩,
 ⟨(some 87), .iaddr 1 (.tmp 84) (.tmp 86), none, false⟩,
 ⟨(some 88), .load 1 false (.tmp 87), none, false⟩,
 ⟨(some 89), .move (.tmp 0), none, false⟩,
 ⟨(some 90), .move (.tmp 9), none, false⟩,
 ⟨(some 91), .iaddr 1 (.tmp 89) (.tmp 90), none, false⟩,
 ⟨(some 92), .load 1 false (.tmp 91), none, false⟩,
 ⟨(some 93), .iaddr 1 (.tmp 79) (.tmp 80), none, false⟩,
 ⟨none, .store 1 (.tmp 93) (.tmp 88), none, false⟩,
 ⟨(some 94), .iaddr 1 (.tmp 81) (.tmp 83), none, false⟩,
 ⟨none, .store 1 (.tmp 94) (.tmp 92), none, false⟩])))
 (.region false [⟨(some 66), .move (.tmp 9), none, false⟩,
 ⟨(some 67), .bin .sub 3 (.tmp 66) (.const (.int .i64 1)), none, false⟩,
 ⟨(some 9), .move (.tmp 67), none, false⟩]))
def ac66_L4 : AC :=
 .seq (.seq (.region false [⟨(some 101), .move (.tmp 10), none, false⟩,
 ⟨(some 102), .move (.tmp 2), none, false⟩,
 ⟨(some 103), .bin .lss 3 (.tmp 101) (.tmp 102), none, false⟩])
 (.cond (.tmp 103)
 (.skip)
 (.exit 6)))
 (.seq (.block 7 (.seq (.seq (.region true [⟨(some 106), .move (.tmp 0), none, false⟩,
 ⟨(some 107), .move (.tmp 10), none, false⟩,
 ⟨(some 108), .iaddr 1 (.tmp 106) (.tmp 107), none, false⟩,
 ⟨(some 109), .load 1 false (.tmp 108), none, false⟩,
 ⟨(some 110), .move (.tmp 0), none, false⟩,
 ⟨(some 111), .move (.tmp 10), none, false⟩,
 ⟨(some 112), .bin .sub 3 (.tmp 111) (.const (.int .i64 1)), none, false⟩,
 ⟨(some 113), .iaddr 1 (.tmp 110) (.tmp 112), none, false⟩,
 ⟨(some 114), .load 1 false (.tmp 113), none, false⟩,
 ⟨(some 115), .call (.func 67) [(.tmp 109), (.tmp 114)], none, false⟩,
 ⟨(some 116), .un .not (.tmp 115), none, false⟩])
 (.cond (.tmp 116)
 (.exit 6)
 (.skip)))
 (.region true [⟨(some 117), .move (.tmp 0), none, false⟩,
 ⟨(some 118), .move (.tmp 10), none, false⟩,
 ⟨(some 119), .move (.tmp 0), none, true⟩,
 ⟨(some 120), .move (.tmp 10), none, true⟩,
 ⟨(some 121), .bin .sub 3 (.tmp 120) (.const (.int .i64 1)), none, true⟩,
 ⟨(some 122), .move (.tmp 0), none, false⟩,
 ⟨(some 123), .move (.tmp 10), none, false⟩,
 ⟨(some 124), .bin .sub 3 (.tmp 123) (.const (.int .i64 1)), none, false⟩,
 ⟨(some 125), .iaddr 1 (.tmp 122) (.tmp 124), none, false⟩,
 ⟨(some 126), .load 1 false (.tmp 125), none, false⟩,
 ⟨(some 127), .move (.tmp 0), none, false⟩,
 ⟨(some 128), .move (.tmp 10), none, false⟩,
 ⟨(some 129), .iaddr 1 (.tmp 127) (.tmp 128), none, false⟩,
 ⟨(some 130), .load 1 false (.tmp 129), none, false⟩,
 ⟨(some 131), .iaddr 1 (.tmp 117) (.tmp 118), none, false⟩,
 ⟨none, .store 1 (.tmp 131) (.tmp 126), none, false⟩,
 ⟨(some 132), .iaddr 1 (.tmp 119) (.tmp 121), none, false⟩,
 ⟨none, .store 1 (.tmp 132) (.tmp 130), none, false⟩])))
 (.region false [⟨(some 104), .move (.tmp 10), none, false⟩,
 ⟨(some 105), .bin .add 3 (.tmp 104) (.const (.int .i64 1)), none, false⟩,
 ⟨(some 10), .move (.tmp 105), none, false⟩]))
def ac66_L1 : AC :=
 .seq (.seq (.region false [⟨(some 13), .move (.tmp 8), none, false⟩,
 ⟨(some 14), .bin .lss 3 (.tmp 13) (.const (.int .i64 5)), none, false⟩])
 (.cond (.tmp 14)
 (.skip)
 (.exit 0)))
 (.seq (.block 1 (.seq (.block 2 (.loop ac66_L2))
 (.seq (.seq (.region false [⟨(some 35), .move (.tmp 7), none, false⟩,
 ⟨(some 36), .move (.tmp 2), none, false⟩,
 ⟨(some 37), .bin .eql 3 (.tmp 35) (.tmp 36), none, false⟩])
 (.cond (.tmp 37)
 (.seq (.region false [⟨(some 6), .move (.const (.bool true)), none, false⟩])
 (.ret))
 (.skip)))
 (.seq (.seq (.region false [⟨(some 38), .move (.tmp 2), none, false⟩,
 ⟨(some 39), .move (.tmp 1), none, false⟩,
 ⟨(some 40), .bin .sub 3 (.tmp 38) (.tmp 39), none, false⟩,
 ⟨(some 41), .bin .lss 3 (.tmp 40) (.const (.int .i64 50)), none, false⟩])
 (.cond (.tmp 41)
 (.seq (.region false [⟨(some 6), .move (.const (.bool false)), none, false⟩])
 (.ret))
 (.skip)))
 (.seq (.region true [⟨(some 42), .move (.tmp 0), none, false⟩,
 ⟨(some 43), .move (.tmp 7), none, false⟩,
 ⟨(some 44), .move (.tmp 0), none, true⟩,
 ⟨(some 45), .move (.tmp 7), none, true⟩,
 ⟨(some 46), .bin .sub 3 (.tmp 45) (.const (.int .i64 1)), none, true⟩,
 ⟨(some 47), .move (.tmp 0), none, false⟩,
 ⟨(some 48), .move (.tmp 7), none, false⟩,
 ⟨(some 49), .bin .sub 3 (.tmp 48) (.const (.int .i64 1)), none, false⟩,
 ⟨(some 50), .iaddr 1 (.tmp 47) (.tmp 49), none, false⟩,
 ⟨(some 51), .load 1 false (.tmp 50), none, false⟩,
 ⟨(some 52), .move (.tmp 0), none, false⟩,
 ⟨(some 53), .move (.tmp 7), none, false⟩,
 ⟨(some 54), .iaddr 1 (.tmp 52) (.tmp 53), none, false⟩,
 ⟨(some 55), .load 1 false (.tmp 54), none, false⟩,
 ⟨(some 56), .iaddr 1 (.tmp 42) (.tmp 43), none, false⟩,
 ⟨none, .store 1 (.tmp 56) (.tmp 51), none, false⟩,
 ⟨(some 57), .iaddr 1 (.tmp 44) (.tmp 46), none, false⟩,
 ⟨none, .store 1 (.tmp 57) (.tmp 55), none, false⟩])
 (.seq (.seq (.region false [⟨(some 58), .move (.tmp 7), none, false⟩,
 ⟨(some 59), .move (.tmp 1), none, false⟩,
 ⟨(some 60), .bin .sub 3 (.tmp 58) (.tmp 59), none, false⟩,
 ⟨(some 61), .bin .geq 3 (.tmp 60) (.const (.int .i64 2)), none, false⟩])
 (.cond (.tmp 61)
 (.seq (.region false [⟨(some 62), .move (.tmp 7), none, false⟩,
 ⟨(some 63), .bin .sub 3 (.tmp 62) (.const (.int .i64 1)), none, false⟩,
 ⟨(some 9), .move (.tmp 63), none, false⟩])
 (.block 4 (.loop ac66_L3)))
 (.skip)))
 (.seq (.region false [⟨(some 95), .move (.tmp 2), none, false⟩,
 ⟨(some 96), .move (.tmp 7), none, false⟩,
 ⟨(some 97), .bin .sub 3 (.tmp 95) (.tmp 96), none, false⟩,
 ⟨(some 98), .bin .geq 3 (.tmp 97) (.const (.int .i64 2)), none, false⟩])
 (.cond (.tmp 98)
 (.seq (.region false [⟨(some 99), .move (.tmp 7), none, false⟩,
 ⟨(some 100), .bin .add 3 (.tmp 99) (.const (.int .i64 1)), none, false⟩,
 ⟨(some 10), .move (.tmp 100), none, false⟩])
 (.block 6 (.loop ac66_L4)))
 (.skip)))))))))
 (.region false [⟨(some 15), .move (.tmp 8), none, false⟩,
 ⟨(some 16), .bin .add 3 (.tmp 15) (.const (.int .i64 1)), none, false⟩,
 ⟨(some 8), .move (.tmp 16), none, false⟩]))
/-- slices.partialInsertionSortOrdered[int] -/
def ac66 : AC :=
 .seq (.region false [⟨(some 6), .move (.const (.bool false)), none, false⟩])
 (.seq (.region false [⟨(some 11), .move (.tmp 1), none, false⟩,
 ⟨(some 12), .bin .add 3 (.tmp 11) (.const (.int .i64 1)), none, false⟩,
 ⟨(some 7), .move (.tmp 12), none, false⟩])
 (.seq (.seq (.region false [⟨(some 8), .move (.const (.int .i64 0)), none, false⟩])
 (.block 0 (.loop ac66_L1)))
 (.seq (.region false [⟨(some 6), .move (.const (.bool false)), none, false⟩])
 (.ret))))
theorem text66 : FnText Try.prog 66 [] 133 3 ac66 [(6, none)] :=
 ⟨Try.call66, follows, Try.f66, _, Try.func66, rfl, rfl, by decide, by kernel_rfl, by kernel_rfl⟩

def ac68_G1 : List AOper :=
 [⟨(some 33), .move (.tmp 0), (some (32, true)), false⟩,
 ⟨(some 34), .move (.tmp 1), (some (32, true)), false⟩,
 ⟨(some 35), .iaddr 1 (.tmp 33) (.tmp 34), (some (32, true)), false⟩,
 ⟨(some 36), .load 1 false (.tmp 35), (some (32, true)), false⟩,
 ⟨(some 37), .move (.tmp 0), (some (32, true)), false⟩,
 ⟨(some 38), .move (.tmp 9), (some (32, true)), false⟩,
 ⟨(some 39), .iaddr 1 (.tmp 37) (.tmp 38), (some (32, true)), false⟩,
 ⟨(some 40), .load 1 false (.tmp 39), (some (32, true)), false⟩,
 ⟨(some 41), .call (.func 67) [(.tmp 36), (.tmp 40)], (some (32, true)), false⟩,
 ⟨(some 42), .un .not (.tmp 41), (some (32, true)), false⟩,
 ⟨(some 43), .pick (.tmp 32) (.tmp 42) (.const (.bool false)), none, false⟩]
def ac68_L2 : AC :=
 .seq (.seq (.region true (⟨(some 29), .move (.tmp 9), none, false⟩ :: ⟨(some 30), .move (.tmp 10), none, false⟩ :: ⟨(some 31), .bin .leq 3 (.tmp 29) (.tmp 30), none, false⟩ :: ⟨(some 32), .move (.tmp 31), none, false⟩ :: (ac68_G1 ++ [])))
 (.cond (.tmp 43)
 (.skip)
 (.exit 2)))
 (.block 3 (.region false [⟨(some 44), .move (.tmp 9), none, false⟩,
 ⟨(some 45), .bin .add 3 (.tmp 44) (.const (.int .i64 1)), none, false⟩,
 ⟨(some 9), .move (.tmp 45), none, false⟩]))
def ac68_G2 : List AOper :=
 [⟨(some 50), .move (.tmp 0), (some (49, true)), false⟩,
 ⟨(some 51), .move (.tmp 1), (some (49, true)), false⟩,
 ⟨(some 52), .iaddr 1 (.tmp 50) (.tmp 51), (some (49, true)), false⟩,
 ⟨(some 53), .load 1 false (.tmp 52), (some (49, true)), false⟩,
 ⟨(some 54), .move (.tmp 0), (some (49, true)), false⟩,
 ⟨(some 55), .move (.tmp 10), (some (49, true)), false⟩,
 ⟨(some 56), .iaddr 1 (.tmp 54) (.tmp 55), (some (49, true)), false⟩,
 ⟨(some 57), .load 1 false (.tmp 56), (some (49, true)), false⟩,
 ⟨(some 58), .call (.func 67) [(.tmp 53), (.tmp 57)], (some (49, true)), false⟩,
 ⟨(some 59), .pick (.tmp 49) (.tmp 58) (.const (.bool false)), none, false⟩]
def ac68_L3 : AC :=
 .seq (.seq (.region true (⟨(some 46), .move (.tmp 9), none, false⟩ :: ⟨(some 47), .move (.tmp 10), none, false⟩ :: ⟨(some 48), .bin .leq 3 (.tmp 46) (.tmp 47), none, false⟩ :: ⟨(some 49), .move (.tmp 48), none, false⟩ :: (ac68_G2 ++ [])))
 (.cond (.tmp 59)
 (.skip)
 (.exit 4)))
 (.block 5 (.region false [⟨(some 60), .move (.tmp 10), none, false⟩,
 ⟨(some 61), .bin .sub 3 (.tmp 60) (.const (.int .i64 1)), none, false⟩,
 ⟨(some 10), .move (.tmp 61), none, false⟩]))
def ac68_L1 : AC :=
 .block 1 (.seq (.block 2 (.loop ac68_L2))
 (.seq (.block 4 (.loop ac68_L3))
 (.seq (.seq (.region false [⟨(some 62), .move (.tmp 9), none, false⟩,
 ⟨(some 63), .move (.tmp 10), none, false⟩,
 ⟨(some 64), .bin .gtr 3 (.tmp 62) (.tmp 63), none, false⟩])
 (.cond (.tmp 64)
 (.exit 0)
 (.skip)))
 (.seq (.region true [⟨(some 65), .move (.tmp 0), none, false⟩,
 ⟨(some 66), .move (.tmp 9), none, false⟩,
 ⟨(some 67), .move (.tmp 0), none, true⟩,
 ⟨(some 68), .move (.tmp 10), none, true⟩,
 ⟨(some 69), .move (.tmp 0), none, false⟩,
 ⟨(some 70), .move (.tmp 10), none, false⟩,
 ⟨(some 71), .iaddr 1 (.tmp 69) (.tmp 70), none, false⟩,
 ⟨(some 72), .load 1 false (.tmp 71), none, false⟩,
 ⟨(some 73), .move (.tmp 0), none, false⟩,
 ⟨(some 74), .move (.tmp 9), none, false⟩,
 ⟨(some 75), .iaddr 1 (.tmp 73) (.tmp 74), none, false⟩,
 ⟨(some 76), .load 1 false (.tmp 75), none, false⟩,
 ⟨(some 77), .iaddr 1 (.tmp 65) (.tmp 66), none, false⟩,
 ⟨none, .store 1 (.tmp 77) (.tmp 72), none, false⟩,
 ⟨(some 78), .iaddr 1 (.tmp 67) (.tmp 68), none, false⟩,
 ⟨none, .store 1 (.tmp 78) (.tmp 76), none, false⟩])
 (.seq (.region false [⟨(some 79), .move (.tmp 9), none, false⟩,
 ⟨(some 80), .bin .add 3 (.tmp 79) (.const (.int .i64 1)), none, false⟩,
 ⟨(some 9), .move (.tmp 80), none, false⟩])
 (.region false [⟨(some 81), .move (.tmp 10), none, false⟩,
 ⟨(some 82), .bin .sub 3 (.tmp 81) (.const (.int .i64 1)), none, false⟩,
 ⟨(some 10), .move (.tmp 82), none, false⟩]))))))
/-- slices.partitionEqualOrdered[int] -/
def ac68 : AC :=
 .seq (.region false [⟨(some 8), .move (.const (.int .i64 0)), none, false⟩])
 (.seq (.region true [⟨(some 11), .move (.tmp 0), none, false⟩,
 ⟨(some 12), .move (.tmp 1), none, false⟩,
 ⟨(some 13), .move (.tmp 0), none, true⟩,
 ⟨(some 14), .move (.tmp 3), none, true⟩,
 ⟨(some 15), .move (.tmp 0), none, false⟩,
 ⟨(some 16), .move (.tmp 3), none, false⟩,
 ⟨(some 17), .iaddr 1 (.tmp 15) (.tmp 16), none, false⟩,
 ⟨(some 18), .load 1 false (.tmp 17), none, false⟩,
 ⟨(some 19), .move (.tmp 0), none, false⟩,
 ⟨(some 20), .move (.tmp 1), none, false⟩,
 ⟨(some 21), .iaddr 1 (.tmp 19) (.tmp 20), none, false⟩,
 ⟨(some 22), .load 1 false (.tmp 21), none, false⟩,
 ⟨(some 23), .iaddr 1 (.tmp 11) (.tmp 12), none, false⟩,
 ⟨none, .store 1 (.tmp 23) (.tmp 18), none, false⟩,
 ⟨(some 24), .iaddr 1 (.tmp 13) (.tmp 14), none, false⟩,
 ⟨none, .store 1 (.tmp 24) (.tmp 22), none, false⟩])
 (.seq (.region false [⟨(some 25), .move (.tmp 1), none, false⟩,
 ⟨(some 26), .bin .add 3 (.tmp 25) (.const (.int .i64 1)), none, false⟩,
 ⟨(some 27), .move (.tmp 2), none, false⟩,
 ⟨(some 28), .bin .sub 3 (.tmp 27) (.const (.int .i64 1)), none, false⟩,
 ⟨(some 9), .move (.tmp 26), none, false⟩,
 ⟨(some 10), .move (.tmp 28), none, false⟩])
 (.seq (.block 0 (.loop ac68_L1))
 (.seq (.region false [⟨(some 83), .move (.tmp 9), none, false⟩,
 ⟨(some 8), .move (.tmp 83), none, false⟩])
 (.ret)))))
theorem text68 : FnText Try.prog 68 [] 84 4 ac68 [(8, none)] :=
 ⟨Try.call68, follows, Try.f68, _, Try.func68, rfl, rfl, by decide, by kernel_rfl, by kernel_rfl⟩

def ac69_G1 : List AOper :=
 [⟨(some 34), .move (.tmp 0), (some (33, true)), false⟩,
 ⟨(some 35), .move (.tmp 10), (some (33, true)), false⟩,
 ⟨(some 36), .iaddr 1 (.tmp 34) (.tmp 35), (some (33, true)), false⟩,
 ⟨(some 37), .load 1 false (.tmp 36), (some (33, true)), false⟩,
 ⟨(some 38), .move (.tmp 0), (some (33, true)), false⟩,
 ⟨(some 39), .move (.tmp 1), (some (33, true)), false⟩,
 ⟨(some 40), .iaddr 1 (.tmp 38) (.tmp 39), (some (33, true)), false⟩,
 ⟨(some 41), .load 1 false (.tmp 40), (some (33, true)), false⟩,
 ⟨(some 42), .call (.func 67) [(.tmp 37), (.tmp 41)], (some (33, true)), false⟩,
 ⟨(some 43), .pick (.tmp 33) (.tmp 42) (.const (.bool false)), none, false⟩]
def ac69_L1 : AC :=
 .seq (.seq (.region true (⟨(some 30), .move (.tmp 10), none, false⟩ :: ⟨(some 31), .move (.tmp 11), none, false⟩ :: ⟨(some 32), .bin .leq 3 (.tmp 30) (.tmp 31), none, false⟩ :: ⟨(some 33), .move (.tmp 32), none, false⟩ :: (ac69_G1 ++ [])))
 (.cond (.tmp 43)
 (.skip)
 (.exit 0)))
 (.block 1 (.region false [⟨(some 44), .move (.tmp 10), none, false⟩,
 ⟨(some 45), .bin .add 3 (.tmp 44) (.const (.int .i64 1)), none, false⟩,
 ⟨(some 10), .move (.tmp 45), none, false⟩]))
def ac69_G2 : List AOper :=
 [⟨(some 50), .move (.tmp 0), (some (49, true)), false⟩,
 ⟨(some 51), .move (.tmp 11), (some (49, true)), false⟩,
 ⟨(some 52), .iaddr 1 (.tmp 50) (.tmp 51), (some (49, true)), false⟩,
 ⟨(some 53), .load 1 false (.tmp 52), (some (49, true)), false⟩,
 ⟨(some 54), .move (.tmp 0), (some (49, true)), false⟩,
 ⟨(some 55), .move (.tmp 1), (some (49, true)), false⟩,
 ⟨(some 56), .iaddr 1 (.tmp 54) (.tmp 55), (some (49, true)), false⟩,
 ⟨(some 57), .load 1 false (.tmp 56), (some (49, true)), false⟩,
 ⟨(some 58), .call (.func 67) [(.tmp 53), (.tmp 57)], (some (49, true)), false⟩,
 ⟨(some 59), .un .not (.tmp 58), (some (49, true)), false⟩,
 ⟨(some 60), .pick (.tmp 49) (.tmp 59) (.const (.bool false)), none, false⟩]
def ac69_L2 : AC :=
 .seq (.seq (.region true (⟨(some 46), .move (.tmp 10), none, false⟩ :: ⟨(some 47), .move (.tmp 11), none, false⟩ :: ⟨(some 48), .bin .leq 3 (.tmp 46) (.tmp 47), none, false⟩ :: ⟨(some 49), .move (.tmp 48), none, false⟩ :: (ac69_G2 ++ [])))
 (.cond (.tmp 60)
 (.skip)
 (.exit 2)))
 (.block 3 (.region false [⟨(some 61), .move (.tmp 11), none, false⟩,
 ⟨(some 62), .bin .sub 3 (.tmp 61) (.const (.int .i64 1)), none, false⟩,
 ⟨(some 11), .move (.tmp 62), none, false⟩]))
def ac69_G3 : List AOper :=
 [⟨(some 103), .move (.tmp 0), (some (102, true)), false⟩,
 ⟨(some 104), .move (.tmp 10), (some (102, true)), false⟩,
 ⟨(some 105), .iaddr 1 (.tmp 103) (.tmp 104), (some (102, true)), false⟩,
 ⟨(some 106), .load 1 false (.tmp 105), (some (102, true)), false⟩,
 ⟨(some 107), .move (.tmp 0), (some (102, true)), false⟩,
 ⟨(some 108), .move (.tmp 1), (some (102, true)), false⟩,
 ⟨(some 109), .iaddr 1 (.tmp 107) (.tmp 108), (some (102, true)), false⟩,
 ⟨(some 110), .load 1 false (.tmp 109), (some (102, true)), false⟩,
 ⟨(some 111), .call (.func 67) [(.tmp 106), (.tmp 110)], (some (102, true)), false⟩,
 ⟨(some 112), .pick (.tmp 102) (.tmp 111) (.const (.bool false)), none, false⟩]
def ac69_L4 : AC :=
 .seq (.seq (.region true (⟨(some 99), .move (.tmp 10), none, false⟩ :: ⟨(some 100), .move (.tmp 11), none, false⟩ :: ⟨(some 101), .bin .leq 3 (.tmp 99) (.tmp 100), none, false⟩ :: ⟨(some 102), .move (.tmp 101), none, false⟩ :: (ac69_G3 ++ [])))
 (.cond (.tmp 112)
 (.skip)
 (.exit 6)))
 (.block 7 (.region false [⟨(some 113), .move (.tmp 10), none, false⟩,
 ⟨(some 114), .bin .add 3 (.tmp 113) (.const (.int .i64 1)), none, false⟩,
 ⟨(some 10), .move (.tmp 114), none, false⟩]))
def ac69_G4 : List AOper :=
 [⟨(some 119), .move (.tmp 0), (some (118, true)), false⟩,
 ⟨(some 120), .move (.tmp 11), (some (118, true)), false⟩,
 ⟨(some 121), .iaddr 1 (.tmp 119) (.tmp 120), (some (118, true)), false⟩,
 ⟨(some 122), .load 1 false (.tmp 121), (some (118, true)), false⟩,
 ⟨(some 123), .move (.tmp 0), (some (118, true)), false⟩,
 ⟨(some 124), .move (.tmp 1), (some (118, true)), false⟩,
 ⟨(some 125), .iaddr 1 (.tmp 123) (.tmp 124), (some (118, true)), false⟩,
 ⟨(some 126), .load 1 false (.tmp 125), (some (118, true)), false⟩,
 ⟨(some 127), .call (.func 67) [(.tmp 122), (.tmp 126)], (some (118, true)), false⟩,
 ⟨(some 128), .un .not (.tmp 127), (some (118, true)), false⟩,
 ⟨(some 129), .pick (.tmp 118) (.tmp 128) (.const (.bool false)), none, false⟩]
def ac69_L5 : AC :=
 .seq (.seq (.region true (⟨(some 115), .move (.tmp 10), none, false⟩ :: ⟨(some 116), .move (.tmp 11), none, false⟩ :: ⟨(some 117), .bin .leq 3 (.tmp 115) (.tmp 116), none, false⟩ :: ⟨(some 118), .move (.tmp 117), none, false⟩ :: (ac69_G4 ++ [])))
 (.cond (.tmp 129)
 (.skip)
 (.exit 8)))
 (.block 9 (.region false [⟨(some 130), .move (.tmp 11), none, false⟩,
 ⟨(some 131), .bin .sub 3 (.tmp 130) (.const (.int .i64 1)), none, false⟩,
 ⟨(some 11), .move (.tmp 131), none, false⟩]))
def ac69_L3 : AC :=
 .block 5 (.seq (.block 6 (.loop ac69_L4))
 (.seq (.block 8 (.loop ac69_L5))
 (.seq (.seq (.region false [⟨(some 132), .move (.tmp 10), none, false⟩,
 ⟨(some 133), .move (.tmp 11), none, false⟩,
 ⟨(some 134), .bin .gtr 3 (.tmp 132) (.tmp 133), none, false⟩])
 (.cond (.tmp 134)
 (.exit 4)
 (.skip)))
 (.seq (.region true [⟨(some 135), .move (.tmp 0), none, false⟩,
 ⟨(some 136), .move (.tmp 10), none, false⟩,
 ⟨(some 137), .move (.tmp 0), none, true⟩,
 ⟨(some 138), .move (.tmp 11), none, true⟩,
 ⟨(some 139), .move (.tmp 0), none, false⟩,
 ⟨(some 140), .move (.tmp 11), none, false⟩,
 ⟨(some 141), .iaddr 1 (.tmp 139) (.tmp 140), none, false⟩,
 ⟨(some 142), .load 1 false (.tmp 141), none, false⟩,
 ⟨(some 143), .move (.tmp 0), none, false⟩,
 ⟨(some 144), .move (.tmp 10), none, false⟩,
 ⟨(some 145), .iaddr 1 (.tmp 143) (.tmp 144), none, false⟩,
 ⟨(some 146), .load 1 false (.tmp 145), none, false⟩,
 ⟨(some 147), .iaddr 1 (.tmp 135) (.tmp 136), none, false⟩,
 ⟨none, .store 1 (.tmp 147) (.tmp 142), none, false⟩,
 ⟨(some 148), .iaddr 1 (.tmp 137) (.tmp 138), none, false⟩,
 ⟨none, .store 1 (.tmp 148) (.tmp 146), none, false⟩])
 (.seq (.region false [⟨(some 149), .move (.tmp 10), none, false⟩,
 ⟨(some 150), .bin .add 3 (.tmp 149) (.const (.int .i64 1)), none, false⟩,
 ⟨(some 10), .move (.tmp 150), none, false⟩])
 (.region false [⟨(some 151), .move (.tmp 11), none, false⟩,
 ⟨(some 152), .bin .sub 3 (.tmp 151) (.const (.int .i64 1)), none, false⟩,
 ⟨(some 11), .move (.tmp 152), none, false⟩]))))))
/-- slices.partitionOrdered[int] -/
def ac69 : AC :=
 .seq (.region false [⟨(some 8), .move (.const (.int .i64 0)), none, false⟩,
 ⟨(some 9), .move (.const (.bool false)), none, false⟩])
 (.seq (.region true [⟨(some 12), .move (.tmp 0), none, false⟩,
 ⟨(some 13), .move (.tmp 1), none, false⟩,
 ⟨(some 14), .move (.tmp 0), none, true⟩,
 ⟨(some 15), .move (.tmp 3), none, true⟩,
 ⟨(some 16), .move (.tmp 0), none, false⟩,
 ⟨(some 17), .move (.tmp 3), none, false⟩,
 ⟨(some 18), .iaddr 1 (.tmp 16) (.tmp 17), none, false⟩,
 ⟨(some 19), .load 1 false (.tmp 18), none, false⟩,
 ⟨(some 20), .move (.tmp 0), none, false⟩,
 ⟨(some 21), .move (.tmp 1), none, false⟩,
 ⟨(some 22), .iaddr 1 (.tmp 20) (.tmp 21), none, false⟩,
 ⟨(some 23), .load 1 false (.tmp 22), none, false⟩,
 ⟨(some 24), .iaddr 1 (.tmp 12) (.tmp 13), none, false⟩,
 ⟨none, .store 1 (.tmp 24) (.tmp 19), none, false⟩,
 ⟨(some 25), .iaddr 1 (.tmp 14) (.tmp 15), none, false⟩,
 ⟨none, .store 1 (.tmp 25) (.tmp 23), none, false⟩])
 (.seq (.region false [⟨(some 26), .move (.tmp 1), none, false⟩,
 ⟨(some 27), .bin .add 3 (.tmp 26) (.const (.int .i64 1)), none, false⟩,
 ⟨(some 28), .move (.tmp 2), none, false⟩,
 ⟨(some 29), .bin .sub 3 (.tmp 28) (.const (.int .i64 1)), none, false⟩,
 ⟨(some 10), .move (.tmp 27), none, false⟩,
 ⟨(some 11), .move (.tmp 29), none, false⟩])
 (.seq (.block 0 (.loop ac69_L1))
 (.seq (.block 2 (.loop ac69_L2))
 (.seq (.seq (.region false [⟨(some 63), .move (.tmp 10), none, false⟩,
 ⟨(some 64), .move (.tmp 11), none, false⟩,
 ⟨(some 65), .bin .gtr 3 (.tmp 63) (.tmp 64), none, false⟩])
 (.cond (.tmp 65)
 (.seq (.region true [⟨(some 66), .move (.tmp 0), none, false⟩,
 ⟨(some 67), .move (.tmp 11), none, false⟩,
 ⟨(some 68), .move (.tmp 0), none, true⟩,
 ⟨(some 69), .move (.tmp 1), none, true⟩,
 ⟨(some 70), .move (.tmp 0), none, false⟩,
 ⟨(some 71), .move (.tmp 1), none, false⟩,
 ⟨(some 72), .iaddr 1 (.tmp 70) (.tmp 71), none, false⟩,
 ⟨(some 73), .load 1 false (.tmp 72), none, false⟩,
 ⟨(some 74), .move (.tmp 0), none, false⟩,
 ⟨(some 75), .move (.tmp 11), none, false⟩,
 ⟨(some 76), .iaddr 1 (.tmp 74) (.tmp 75), none, false⟩,
 ⟨(some 77), .load 1 false (.tmp 76), none, false⟩,
 ⟨(some 78), .iaddr 1 (.tmp 66) (.tmp 67), none, false⟩,
 ⟨none, .store 1 (.tmp 78) (.tmp 73), none, false⟩,
 ⟨(some 79), .iaddr 1 (.tmp 68) (.tmp 69), none, false⟩,
 ⟨none, .store 1 (.tmp 79) (.tmp 77), none, false⟩])
 (.seq (.region false [⟨(some 80), .move (.tmp 11), none, false⟩,
 ⟨(some 8), .move (.tmp 80), none, false⟩,
 ⟨(some 9), .move (.const (.bool true)), none, false⟩])
 (.ret)))
 (.skip)))
 (.seq (.region true [⟨(some 81), .move (.tmp 0), none, false⟩,
 ⟨(some 82), .move (.tmp 10), none, false⟩,
 ⟨(some 83), .move (.tmp 0), none, true⟩,
 ⟨(some 84), .move (.tmp 11), none, true⟩,
 ⟨(some 85), .move (.tmp 0), none, false⟩,
 ⟨(some 86), .move (.tmp 11), none, false⟩,
 ⟨(some 87), .iaddr 1 (.tmp 85) (.tmp 86), none, false⟩,
 ⟨(some 88), .load 1 false (.tmp 87), none, false⟩,
 ⟨(some 89), .move (.tmp 0), none, false⟩,
 ⟨(some 90), .move (.tmp 10), none, false⟩,
 ⟨(some 91), .iaddr 1 (.tmp 89) (.tmp 90), none, false⟩,
 ⟨(some 92), .load 1 false (.tmp 91), none, false⟩,
 ⟨(some 93), .iaddr 1 (.tmp 81) (.tmp 82), none, false⟩,
 ⟨none, .store 1 (.tmp 93) (.tmp 88), none, false⟩,
 ⟨(some 94), .iaddr 1 (.tmp 83) (.tmp 84), none, false⟩,
 ⟨none, .store 1 (.tmp 94) (.tmp 92), none, false⟩])
 (.seq (.region false [⟨(some 95), .move (.tmp 10), none, false⟩,
 ⟨(some 96), .bin .add 3 (.tmp 95) (.const (.int .i64 1)), none, false⟩,
 ⟨(some 10), .move (.tmp 96), none, false⟩])
 (.seq (.region false [⟨(some 97), .move (.tmp 11), none, false⟩,
 ⟨(some 98), .bin .sub 3 (.tmp 97) (.const (.int .i64 1)), none, false⟩,
 ⟨(some 11), .move (.tmp 98), none, false⟩])
 (.seq (.block 4 (.loop ac69_L3))
 (.seq (.region true [⟨(some 153), .move (.tmp 0), none, false⟩,
 ⟨(some 154), .move (.tmp 11), none, false⟩,
 ⟨(some 155), .move (.tmp 0), none, true⟩,
 ⟨(some 156), .move (.tmp 1), none, true⟩,
 ⟨(some 157), .move (.tmp 0), none, false⟩,
 ⟨(some 158), .move (.tmp 1), none, false⟩,
 ⟨(some 159), .iaddr 1 (.tmp 157) (.tmp 158), none, false⟩,
 ⟨(some 160), .load 1 false (.tmp 159), none, false⟩,
 ⟨(some 161), .move (.tmp 0), none, false⟩,
 ⟨(some 162), .move (.tmp 11), none, false⟩,
 ⟨(some 163), .iaddr 1 (.tmp 161) (.tmp 162), none, false⟩,
 ⟨(some 164), .load 1 false (.tmp 163), none, false⟩,
 ⟨(some 165), .iaddr 1 (.tmp 153) (.tmp 154), none, false⟩,
 ⟨none, .store 1 (.tmp 165) (.tmp 160), none, false⟩,
 ⟨(some 166), .iaddr 1 (.tmp 155) (.tmp 156), none, false⟩,
 ⟨none, .store 1 (.tmp 166) (.tmp 164), none, false⟩])
 (.seq (.region false [⟨(some 167), .move (.tmp 11), none, false⟩,
 ⟨(some 8), .move (.tmp 167), none, false⟩,
 ⟨(some 9), .move (.const (.bool false)), none, false⟩])
 (.ret))))))))))))
theorem text69 : FnText Try.prog 69 [] 168 4 ac69 [(8, none), (9, none)] :=
 ⟨Try.call69, follows, Try.f69, _, Try.func69, rfl, rfl, by decide, by kernel_rfl, by kernel_rfl⟩

def ac30_L2 : AC :=
 .seq (.seq (.region false [⟨(some 29), .move (.tmp 5), none, false⟩,
 ⟨(some 30), .move (.tmp 4), none, false⟩,
 ⟨(some 31), .bi .len [29].toArray 3 [(.tmp 30)], none, false⟩,
 ⟨(some 32), .bin .lss 3 (.tmp 29) (.tmp 31), none, false⟩])
 (.cond (.tmp 32)
 (.skip)
 (.exit 2)))
 (.seq (.block 3 (.seq (.region true [⟨(some 35), .move (.tmp 4), none, false⟩,
 ⟨(some 36), .move (.tmp 5), none, false⟩,
 ⟨(some 37), .iaddr 1 (.tmp 35) (.tmp 36), none, false⟩,
 ⟨(some 38), .load 1 false (.tmp 37), none, false⟩,
 ⟨(some 39), .move (.tmp 4), none, false⟩,
 ⟨(some 40), .move (.tmp 5), none, false⟩,
 ⟨(some 41), .bin .sub 3 (.tmp 40) (.const (.int .i64 1)), none, false⟩,
 ⟨(some 42), .iaddr 1 (.tmp 39) (.tmp 41), none, false⟩,
 ⟨(some 43), .load 1 false (.tmp 42), none, false⟩,
 ⟨(some 44), .bin .neq 3 (.tmp 38) (.tmp 43), none, false⟩])
 (.cond (.tmp 44)
 (.seq (.region false [⟨(some 45), .move (.tmp 0), none, false⟩,
 ⟨(some 46), .move (.tmp 3), none, false⟩,
 ⟨(some 47), .move (.tmp 4), none, false⟩,
 ⟨(some 48), .move (.tmp 5), none, false⟩,
 ⟨(some 49), .iaddr 1 (.tmp 47) (.tmp 48), none, false⟩,
 ⟨(some 50), .load 1 false (.tmp 49), none, false⟩,
 ⟨(some 51), .iaddr 1 (.tmp 45) (.tmp 46), none, false⟩,
 ⟨none, .store 1 (.tmp 51) (.tmp 50), none, false⟩])
 (.region false [⟨(some 52), .move (.tmp 3), none, false⟩,
 ⟨(some 53), .bin .add 3 (.tmp 52) (.const (.int .i64 1)), none, false⟩,
 ⟨(some 3), .move (.tmp 53), none, false⟩]))
 (.skip))))
 (.region false [⟨(some 33), .move (.tmp 5), none, false⟩,
 ⟨(some 34), .bin .add 3 (.tmp 33) (.const (.int .i64 1)), none, false⟩,
 ⟨(some 5), .move (.tmp 34), none, false⟩]))
def ac30_L1 : AC :=
 .seq (.seq (.region false [⟨(some 10), .move (.tmp 3), none, false⟩,
 ⟨(some 11), .move (.tmp 0), none, false⟩,
 ⟨(some 12), .bi .len [29].toArray 3 [(.tmp 11)], none, false⟩,
 ⟨(some 13), .bin .lss 3 (.tmp 10) (.tmp 12), none, false⟩])
 (.cond (.tmp 13)
 (.skip)
 (.exit 0)))
 (.seq (.block 1 (.seq (.region true [⟨(some 16), .move (.tmp 0), none, false⟩,
 ⟨(some 17), .move (.tmp 3), none, false⟩,
 ⟨(some 18), .iaddr 1 (.tmp 16) (.tmp 17), none, false⟩,
 ⟨(some 19), .load 1 false (.tmp 18), none, false⟩,
 ⟨(some 20), .move (.tmp 0), none, false⟩,
 ⟨(some 21), .move (.tmp 3), none, false⟩,
 ⟨(some 22), .bin .sub 3 (.tmp 21) (.const (.int .i64 1)), none, false⟩,
 ⟨(some 23), .iaddr 1 (.tmp 20) (.tmp 22), none, false⟩,
 ⟨(some 24), .load 1 false (.tmp 23), none, false⟩,
 ⟨(some 25), .bin .eql 3 (.tmp 19) (.tmp 24), none, false⟩])
 (.cond (.tmp 25)
 (.seq (.region false [⟨(some 26), .move (.tmp 0), none, false⟩,
 ⟨(some 27), .move (.tmp 3), none, false⟩,
 ⟨(some 28), .slice 29 1 (.tmp 26) (some (.tmp 27)) none none, none, false⟩,
 ⟨(some 4), .move (.tmp 28), none, false⟩])
 (.seq (.seq (.region false [⟨(some 5), .move (.const (.int .i64 1)), none, false⟩])
 (.block 2 (.loop ac30_L2)))
 (.seq (.region false [⟨(some 54), .move (.tmp 0), none, false⟩,
 ⟨(some 55), .move (.tmp 3), none, false⟩,
 ⟨(some 56), .slice 29 1 (.tmp 54) (some (.tmp 55)) none none, none, false⟩,
 ⟨none, .copy 0 0 0 (.const (.bool false)) (.const (.bool false)), none, false⟩])
 (.seq (.region false [⟨(some 57), .move (.tmp 0), none, false⟩,
 ⟨(some 58), .move (.tmp 3), none, false⟩,
 ⟨(some 59), .slice 29 1 (.tmp 57) none (some (.tmp 58)) none, none, false⟩,
 ⟨(some 2), .move (.tmp 59), none, false⟩])
 (.ret)))))
 (.skip))))
 (.region false [⟨(some 14), .move (.tmp 3), none, false⟩,
 ⟨(some 15), .bin .add 3 (.tmp 14) (.const (.int .i64 1)), none, false⟩,
 ⟨(some 3), .move (.tmp 15), none, false⟩]))
/-- slices.Compact[[]int,int] -/
def ac30 : AC :=
 .seq (.region false [⟨(some 2), .move (.const (.slice none 0 0)), none, false⟩])
 (.seq (.seq (.region false [⟨(some 6), .move (.tmp 0), none, false⟩,
 ⟨(some 7), .bi .len [29].toArray 3 [(.tmp 6)], none, false⟩,
 ⟨(some 8), .bin .lss 3 (.tmp 7) (.const (.int .i64 2)), none, false⟩])
 (.cond (.tmp 8)
 (.seq (.region false [⟨(some 9), .move (.tmp 0), none, false⟩,
 ⟨(some 2), .move (.tmp 9), none, false⟩])
 (.ret))
 (.skip)))
 (.seq (.seq (.region false [⟨(some 3), .move (.const (.int .i64 1)), none, false⟩])
 (.block 0 (.loop ac30_L1)))
 (.seq (.region false [⟨(some 60), .move (.tmp 0), none, false⟩,
 ⟨(some 2), .move (.tmp 60), none, false⟩])
 (.ret))))
theorem text30 : FnText Try.prog 30 [] 61 1 ac30 [(2, none)] :=
 ⟨Try.call30, follows, Try.f30, _, Try.func30, rfl, rfl, by decide, by kernel_rfl, by kernel_rfl⟩

def ac17_L1 : AC :=
 .seq (.seq (.region false [⟨(some 11), .move (.tmp 5), none, false⟩,
 ⟨(some 12), .move (.tmp 0), none, false⟩,
 ⟨(some 13), .bi .len [29].toArray 3 [(.tmp 12)], none, false⟩,
 ⟨(some 14), .bin .lss 3 (.tmp 11) (.tmp 13), none, false⟩])
 (.cond (.tmp 14)
 (.skip)
 (.exit 0)))
 (.seq (.block 1 (.seq (.region true [⟨(some 17), .move (.tmp 0), none, false⟩,
 ⟨(some 18), .move (.tmp 5), none, false⟩,
 ⟨(some 19), .iaddr 1 (.tmp 17) (.tmp 18), none, false⟩,
 ⟨(some 20), .load 1 false (.tmp 19), none, false⟩,
 ⟨(some 21), .move (.tmp 1), none, false⟩,
 ⟨(some 22), .move (.tmp 5), none, false⟩,
 ⟨(some 23), .iaddr 1 (.tmp 21) (.tmp 22), none, false⟩,
 ⟨(some 24), .load 1 false (.tmp 23), none, false⟩,
 ⟨(some 25), .bin .neq 3 (.tmp 20) (.tmp 24), none, false⟩])
 (.cond (.tmp 25)
 (.seq (.region false [⟨(some 4), .move (.const (.bool false)), none, false⟩])
 (.ret))
 (.skip))))
 (.region false [⟨(some 15), .move (.tmp 5), none, false⟩,
 ⟨(some 16), .bin .add 3 (.tmp 15) (.const (.int .i64 1)), none, false⟩,
 ⟨(some 5), .move (.tmp 16), none, false⟩]))
/-- patchbay/patchbayref02.EqualInts -/
def ac17 : AC :=
 .seq (.region false [⟨(some 4), .move (.const (.bool false)), none, false⟩])
 (.seq (.seq (.region false [⟨(some 6), .move (.tmp 0), none, false⟩,
 ⟨(some 7), .bi .len [29].toArray 3 [(.tmp 6)], none, false⟩,
 ⟨(some 8), .move (.tmp 1), none, false⟩,
 ⟨(some 9), .bi .len [29].toArray 3 [(.tmp 8)], none, false⟩,
 ⟨(some 10), .bin .neq 3 (.tmp 7) (.tmp 9), none, false⟩])
 (.cond (.tmp 10)
 (.seq (.region false [⟨(some 4), .move (.const (.bool false)), none, false⟩])
 (.ret))
 (.skip)))
 (.seq (.seq (.region false [⟨(some 5), .move (.const (.int .i64 0)), none, false⟩])
 (.block 0 (.loop ac17_L1)))
 (.seq (.region false [⟨(some 4), .move (.const (.bool true)), none, false⟩])
 (.ret))))
theorem text17 : FnText Try.prog 17 [] 26 2 ac17 [(4, none)] :=
 ⟨Try.call17, follows, Try.f17, _, Try.func17, rfl, rfl, by decide, by kernel_rfl, by kernel_rfl⟩

end Go.Proofs.Ytfekghenlhoamaa
