/-
 The text of each function of this seat, as the plain library tells it; each by the kernel's own reckoning from the program.
-/
import Derived.Test.YtfekghenlhoamaaPbWp
import Derived.Test.YtfekghenlhoamaaRows
set_option linter.unusedVariables false
set_option maxRecDepth 100000
namespace Go.Proofs.Ytfekghenlhoamaa
open Go Go.Pb
theorem follows : Try.prog.follows .mixedOrders = true := by kernel_rfl

/-- (patchbay/patchbaylaw13.Args).scope -/
def ac8 : AC :=
 .seq (.region false [⟨(some 1), .box false 40 (.tmp 0), none, false⟩,
 ⟨(some 2), .alloc true 46 (.agg [(.string ⟨[].toArray⟩), (.slice none 0 0), (.slice none 0 0), (.slice none 0 0), (.slice none 0 0), (.slice none 0 0), (.slice none 0 0), (.slice none 0 0), (.slice none 0 0), (.slice none 0 0)].toArray), none, false⟩])
 (.seq (.region false [⟨(some 3), .faddr 0 9 true (.tmp 1), none, false⟩,
 ⟨(some 4), .load 9 true (.tmp 3), none, false⟩,
 ⟨(some 5), .faddr 9 1 false (.tmp 1), none, false⟩,
 ⟨(some 6), .load 1 false (.tmp 5), none, false⟩,
 ⟨(some 7), .build [(.string ⟨[].toArray⟩), (.slice none 0 0), (.slice none 0 0), (.slice none 0 0), (.slice none 0 0), (.slice none 0 0), (.slice none 0 0), (.slice none 0 0), (.slice none 0 0), (.slice none 0 0)] [(0, 9, (.tmp 4)), (9, 1, (.tmp 6))], none, false⟩,
 ⟨none, .store 10 (.tmp 2) (.tmp 7), none, false⟩])
 (.ret))
theorem text8 : FnText Try.prog 8 [2] 8 1 ac8 [(2, some (10, true))] :=
 ⟨Try.call8, follows, Try.f8, _, Try.func8, rfl, rfl, by decide, by kernel_rfl, by kernel_rfl⟩


/-- patchbay/expr.arity -/
def ac20 : AC :=
 .seq (.region false [⟨(some 2), .move (.const (.int .i64 0)), none, false⟩])
 (.seq (.seq (.region false [⟨(some 3), .move (.tmp 0), none, false⟩])
 (.block 0 (.seq (.seq (.region false [⟨(some 5), .bin .eql 3 (.tmp 3) (.const (.int .i64 1)), none, false⟩,
 ⟨(some 4), .move (.tmp 5), none, false⟩])
 (.cond (.tmp 4)
 (.skip)
 (.seq (.region false [⟨(some 6), .bin .eql 3 (.tmp 3) (.const (.int .i64 2)), none, false⟩,
 ⟨(some 4), .move (.tmp 6), none, false⟩])
 (.cond (.tmp 4)
 (.skip)
 (.seq (.region false [⟨(some 7), .bin .eql 3 (.tmp 3) (.const (.int .i64 3)), none, false⟩,
 ⟨(some 4), .move (.tmp 7), none, false⟩])
 (.cond (.tmp 4)
 (.skip)
 (.region false [⟨(some 8), .bin .eql 3 (.tmp 3) (.const (.int .i64 4)), none, false⟩,
 ⟨(some 4), .move (.tmp 8), none, false⟩])))))))
 (.cond (.tmp 4)
 (.seq (.region false [⟨(some 2), .move (.const (.int .i64 0)), none, false⟩])
 (.ret))
 (.seq (.seq (.region false [⟨(some 10), .bin .eql 3 (.tmp 3) (.const (.int .i64 5)), none, false⟩,
 ⟨(some 9), .move (.tmp 10), none, false⟩])
 (.cond (.tmp 9)
 (.skip)
 (.seq (.region false [⟨(some 11), .bin .eql 3 (.tmp 3) (.const (.int .i64 6)), none, false⟩,
 ⟨(some 9), .move (.tmp 11), none, false⟩])
 (.cond (.tmp 9)
 (.skip)
 (.seq (.region false [⟨(some 12), .bin .eql 3 (.tmp 3) (.const (.int .i64 7)), none, false⟩,
 ⟨(some 9), .move (.tmp 12), none, false⟩])
 (.cond (.tmp 9)
 (.skip)
 (.region false [⟨(some 13), .bin .eql 3 (.tmp 3) (.const (.int .i64 8)), none, false⟩,
 ⟨(some 9), .move (.tmp 13), none, false⟩])))))))
 (.cond (.tmp 9)
 (.seq (.region false [⟨(some 2), .move (.const (.int .i64 1)), none, false⟩])
 (.ret))
 (.seq (.seq (.region false [⟨(some 15), .bin .eql 3 (.tmp 3) (.const (.int .i64 9)), none, false⟩,
 ⟨(some 14), .move (.tmp 15), none, false⟩])
 (.cond (.tmp 14)
 (.skip)
 (.seq (.region false [⟨(some 16), .bin .eql 3 (.tmp 3) (.const (.int .i64 10)), none, false⟩,
 ⟨(some 14), .move (.tmp 16), none, false⟩])
 (.cond (.tmp 14)
 (.skip)
 (.seq (.region false [⟨(some 17), .bin .eql 3 (.tmp 3) (.const (.int .i64 11)), none, false⟩,
 ⟨(some 14), .move (.tmp 17), none, false⟩])
 (.cond (.tmp 14)
 (.skip)
 (.seq (.region false [⟨(some 18), .bin .eql 3 (.tmp 3) (.const (.int .i64 12)), none, false⟩,
 ⟨(some 14), .move (.tmp 18), none, false⟩])
 (.cond (.tmp 14)
 (.skip)
 (.seq (.region false [⟨(some 19), .bin .eql 3 (.tmp 3) (.const (.int .i64 13)), none, false⟩,
 ⟨(some 14), .move (.tmp 19), none, false⟩])
 (.cond (.tmp 14)
 (.skip)
 (.seq (.region false [⟨(some 20), .bin .eql 3 (.tmp 3) (.const (.int .i64 14)), none, false⟩,
 ⟨(some 14), .move (.tmp 20), none, false⟩])
 (.cond (.tmp 14)
 (.skip)
 (.seq (.region false [⟨(some 21), .bin .eql 3 (.tmp 3) (.const (.int .i64 15)), none, false⟩,
 ⟨(some 14), .move (.tmp 21), none, false⟩])
 (.cond (.tmp 14)
 (.skip)
 (.region false [⟨(some 22), .bin .eql 3 (.tmp 3) (.const (.int .i64 16)), none, false⟩,
 ⟨(some 14), .move (.tmp 22), none, false⟩])))))))))))))))
 (.cond (.tmp 14)
 (.seq (.region false [⟨(some 2), .move (.const (.int .i64 2)), none, false⟩])
 (.ret))
 (.seq (.region false [⟨(some 24), .bin .eql 3 (.tmp 3) (.const (.int .i64 17)), none, false⟩,
 ⟨(some 23), .move (.tmp 24), none, false⟩])
 (.cond (.tmp 23)
 (.seq (.region false [⟨(some 2), .move (.const (.int .i64 3)), none, false⟩])
 (.ret))
 (.skip)))))))))))
 (.seq (.region false [⟨(some 2), .move (.const (.int .i64 (-1))), none, false⟩])
 (.ret)))
theorem text20 : FnText Try.prog 20 [] 25 1 ac20 [(2, none)] :=
 ⟨Try.call20, follows, Try.f20, _, Try.func20, rfl, rfl, by decide, by kernel_rfl, by kernel_rfl⟩

def ac40_G1 : List AOper :=
 [⟨(some 7), .move (.tmp 0), (some (6, false)), false⟩,
 ⟨(some 8), .bin .gtr 3 (.tmp 7) (.const (.int .i64 32)), (some (6, false)), false⟩,
 ⟨(some 9), .pick (.tmp 6) (.const (.bool true)) (.tmp 8), none, false⟩]
/-- patchbay/expr.wide -/
def ac40 : AC :=
 .seq (.region false [⟨(some 2), .move (.const (.int .i64 0)), none, false⟩,
 ⟨(some 3), .move (.const (.int .i64 0)), none, false⟩])
 (.seq (.seq (.region false (⟨(some 4), .move (.tmp 0), none, false⟩ :: ⟨(some 5), .bin .lss 3 (.tmp 4) (.const (.int .i64 1)), none, false⟩ :: ⟨(some 6), .move (.tmp 5), none, false⟩ :: (ac40_G1 ++ [])))
 (.cond (.tmp 9)
 (.seq (.region false [⟨(some 2), .move (.const (.int .i64 0)), none, false⟩,
 ⟨(some 3), .move (.const (.int .i64 10)), none, false⟩])
 (.ret))
 (.skip)))
 (.seq (.region false [⟨(some 10), .move (.tmp 0), none, false⟩,
 ⟨(some 2), .move (.tmp 10), none, false⟩,
 ⟨(some 3), .move (.const (.int .i64 0)), none, false⟩])
 (.ret)))
theorem text40 : FnText Try.prog 40 [] 11 1 ac40 [(2, none), (3, none)] :=
 ⟨Try.call40, follows, Try.f40, _, Try.func40, rfl, rfl, by decide, by kernel_rfl, by kernel_rfl⟩

def ac22_G1 : List AOper :=
 [⟨(some 14), .move (.tmp 4), (some (13, false)), false⟩,
 ⟨(some 15), .bin .gtr 3 (.tmp 14) (.const (.int .i64 32)), (some (13, false)), false⟩,
 ⟨(some 16), .pick (.tmp 13) (.const (.bool true)) (.tmp 15), none, false⟩]
def ac22_L1 : AC :=
 .seq (.region false [⟨(some 8), .bin .lss 3 (.tmp 7) (.tmp 6), none, false⟩])
 (.seq (.cond (.tmp 8)
 (.skip)
 (.exit 0))
 (.seq (.block 1 (.seq (.region false [⟨(some 9), .iaddr 1 (.tmp 5) (.tmp 7), none, false⟩,
 ⟨(some 10), .load 1 false (.tmp 9), none, false⟩,
 ⟨(some 4), .move (.tmp 10), none, false⟩])
 (.seq (.region false (⟨(some 11), .move (.tmp 4), none, false⟩ :: ⟨(some 12), .bin .lss 3 (.tmp 11) (.const (.int .i64 1)), none, false⟩ :: ⟨(some 13), .move (.tmp 12), none, false⟩ :: (ac22_G1 ++ [])))
 (.cond (.tmp 16)
 (.seq (.region false [⟨(some 2), .move (.const (.bool false)), none, false⟩])
 (.ret))
 (.skip)))))
 (.region false [⟨(some 17), .bin .add 3 (.tmp 7) (.const (.int .i64 1)), none, false⟩,
 ⟨(some 7), .move (.tmp 17), none, false⟩])))
/-- patchbay/bitvec.valid -/
def ac22 : AC :=
 .seq (.region false [⟨(some 2), .move (.const (.bool false)), none, false⟩])
 (.seq (.seq (.region false [⟨(some 5), .move (.tmp 0), none, false⟩,
 ⟨(some 6), .bi .len [29].toArray 3 [(.tmp 5)], none, false⟩,
 ⟨(some 7), .move (.const (.int .i64 0)), none, false⟩])
 (.block 0 (.loop ac22_L1)))
 (.seq (.region false [⟨(some 2), .move (.const (.bool true)), none, false⟩])
 (.ret)))
theorem text22 : FnText Try.prog 22 [] 18 1 ac22 [(2, none)] :=
 ⟨Try.call22, follows, Try.f22, _, Try.func22, rfl, rfl, by decide, by kernel_rfl, by kernel_rfl⟩


/-- patchbay/bitvec.Mask -/
def ac23 : AC :=
 .seq (.region false [⟨(some 2), .move (.const (.int .u32 0)), none, false⟩])
 (.seq (.seq (.region false [⟨(some 3), .move (.tmp 0), none, false⟩,
 ⟨(some 4), .bslice false 3 1 false [(.tmp 3)], none, false⟩,
 ⟨(some 5), .call (.func 22) [(.tmp 4)], none, false⟩,
 ⟨(some 6), .un .not (.tmp 5), none, false⟩])
 (.cond (.tmp 6)
 (.seq (.region false [⟨(some 2), .move (.const (.int .u32 0)), none, false⟩])
 (.ret))
 (.skip)))
 (.seq (.region false [⟨(some 7), .move (.tmp 0), none, false⟩,
 ⟨(some 8), .bin .sub 3 (.const (.int .i64 32)) (.tmp 7), none, false⟩,
 ⟨(some 9), .bin .shr 50 (.const (.int .u32 4294967295)) (.tmp 8), none, false⟩,
 ⟨(some 2), .move (.tmp 9), none, false⟩])
 (.ret)))
theorem text23 : FnText Try.prog 23 [] 10 1 ac23 [(2, none)] :=
 ⟨Try.call23, follows, Try.f23, _, Try.func23, rfl, rfl, by decide, by kernel_rfl, by kernel_rfl⟩

def ac41_G1 : List AOper :=
 [⟨(some 17), .move (.tmp 1), (some (16, false)), false⟩,
 ⟨(some 18), .faddr 0 9 true (.tmp 3), (some (16, false)), false⟩,
 ⟨(some 19), .faddr 1 1 false (.tmp 18), (some (16, false)), false⟩,
 ⟨(some 20), .load 1 false (.tmp 19), (some (16, false)), false⟩,
 ⟨(some 21), .bi .len [22].toArray 3 [(.tmp 20)], (some (16, false)), false⟩,
 ⟨(some 22), .bin .geq 3 (.tmp 17) (.tmp 21), (some (16, false)), false⟩,
 ⟨(some 23), .pick (.tmp 16) (.const (.bool true)) (.tmp 22), none, false⟩]
def ac41_G2 : List AOper :=
 [⟨(some 35), .move (.tmp 2), (some (34, false)), false⟩,
 ⟨(some 36), .move (.tmp 8), (some (34, false)), false⟩,
 ⟨(some 37), .bi .len [23].toArray 3 [(.tmp 36)], (some (34, false)), false⟩,
 ⟨(some 38), .bin .geq 3 (.tmp 35) (.tmp 37), (some (34, false)), false⟩,
 ⟨(some 39), .pick (.tmp 34) (.const (.bool true)) (.tmp 38), none, false⟩]
/-- (patchbay/expr.Scope).field -/
def ac41 : AC :=
 .seq (.region false [⟨(some 3), .box false 46 (.tmp 0), none, false⟩,
 ⟨(some 6), .alloc true 60 (.agg [(.string ⟨[].toArray⟩), (.int .i64 0)].toArray), none, false⟩,
 ⟨(some 7), .move (.const (.bool false)), none, false⟩])
 (.seq (.region false [⟨(some 9), .faddr 0 9 true (.tmp 3), none, false⟩,
 ⟨(some 10), .faddr 2 1 false (.tmp 9), none, false⟩,
 ⟨(some 11), .load 1 false (.tmp 10), none, false⟩,
 ⟨(some 8), .move (.tmp 11), none, false⟩])
 (.seq (.seq (.region false [⟨(some 12), .move (.tmp 1), none, false⟩,
 ⟨(some 13), .bin .neq 3 (.tmp 12) (.const (.int .i64 (-1))), none, false⟩])
 (.cond (.tmp 13)
 (.seq (.seq (.region false (⟨(some 14), .move (.tmp 1), none, false⟩ :: ⟨(some 15), .bin .lss 3 (.tmp 14) (.const (.int .i64 0)), none, false⟩ :: ⟨(some 16), .move (.tmp 15), none, false⟩ :: (ac41_G1 ++ [])))
 (.cond (.tmp 23)
 (.seq (.region false [⟨(some 24), .build [(.string ⟨[].toArray⟩), (.int .i64 0)] [], none, false⟩,
 ⟨none, .store 2 (.tmp 6) (.tmp 24), none, false⟩,
 ⟨(some 7), .move (.const (.bool false)), none, false⟩])
 (.ret))
 (.skip)))
 (.region false [⟨(some 25), .faddr 0 9 true (.tmp 3), none, false⟩,
 ⟨(some 26), .faddr 1 1 false (.tmp 25), none, false⟩,
 ⟨(some 27), .load 1 false (.tmp 26), none, false⟩,
 ⟨(some 28), .move (.tmp 1), none, false⟩,
 ⟨(some 29), .iaddr 2 (.tmp 27) (.tmp 28), none, false⟩,
 ⟨(some 30), .faddr 1 1 false (.tmp 29), none, false⟩,
 ⟨(some 31), .load 1 false (.tmp 30), none, false⟩,
 ⟨(some 8), .move (.tmp 31), none, false⟩]))
 (.skip)))
 (.seq (.seq (.region false (⟨(some 32), .move (.tmp 2), none, false⟩ :: ⟨(some 33), .bin .lss 3 (.tmp 32) (.const (.int .i64 0)), none, false⟩ :: ⟨(some 34), .move (.tmp 33), none, false⟩ :: (ac41_G2 ++ [])))
 (.cond (.tmp 39)
 (.seq (.region false [⟨(some 40), .build [(.string ⟨[].toArray⟩), (.int .i64 0)] [], none, false⟩,
 ⟨none, .store 2 (.tmp 6) (.tmp 40), none, false⟩,
 ⟨(some 7), .move (.const (.bool false)), none, false⟩])
 (.ret))
 (.skip)))
 (.seq (.region false [⟨(some 41), .move (.tmp 8), none, false⟩,
 ⟨(some 42), .move (.tmp 2), none, false⟩,
 ⟨(some 43), .iaddr 2 (.tmp 41) (.tmp 42), none, false⟩,
 ⟨(some 44), .load 2 true (.tmp 43), none, false⟩,
 ⟨none, .store 2 (.tmp 6) (.tmp 44), none, false⟩,
 ⟨(some 7), .move (.const (.bool true)), none, false⟩])
 (.ret)))))
theorem text41 : FnText Try.prog 41 [6] 45 3 ac41 [(6, some (2, true)), (7, none)] :=
 ⟨Try.call41, follows, Try.f41, _, Try.func41, rfl, rfl, by decide, by kernel_rfl, by kernel_rfl⟩

def ac31_G2 : List AOper :=
 [⟨(some 27), .faddr 1 1 false (.tmp 3), (some (26, false)), false⟩,
 ⟨(some 28), .load 1 false (.tmp 27), (some (26, false)), false⟩,
 ⟨(some 29), .move (.tmp 6), (some (26, false)), false⟩,
 ⟨(some 30), .call (.func 23) [(.tmp 29)], (some (26, false)), false⟩,
 ⟨(some 31), .conv 50 3 (.tmp 30), (some (26, false)), false⟩,
 ⟨(some 32), .bin .gtr 3 (.tmp 28) (.tmp 31), (some (26, false)), false⟩,
 ⟨(some 33), .pick (.tmp 26) (.const (.bool true)) (.tmp 32), (some (22, true)), false⟩]
def ac31_G1 : List AOper :=
 (⟨(some 23), .faddr 1 1 false (.tmp 3), (some (22, true)), false⟩ :: ⟨(some 24), .load 1 false (.tmp 23), (some (22, true)), false⟩ :: ⟨(some 25), .bin .lss 3 (.tmp 24) (.const (.int .i64 0)), (some (22, true)), false⟩ :: ⟨(some 26), .move (.tmp 25), (some (22, true)), false⟩ :: (ac31_G2 ++ [⟨(some 34), .pick (.tmp 22) (.tmp 33) (.const (.bool false)), none, false⟩]))
def ac31_G3 : List AOper :=
 [⟨(some 61), .faddr 1 1 false (.tmp 3), (some (60, false)), false⟩,
 ⟨(some 62), .load 1 false (.tmp 61), (some (60, false)), false⟩,
 ⟨(some 63), .faddr 9 1 false (.tmp 2), (some (60, false)), false⟩,
 ⟨(some 64), .load 1 false (.tmp 63), (some (60, false)), false⟩,
 ⟨(some 65), .bi .len [23].toArray 3 [(.tmp 64)], (some (60, false)), false⟩,
 ⟨(some 66), .bin .geq 3 (.tmp 62) (.tmp 65), (some (60, false)), false⟩,
 ⟨(some 67), .pick (.tmp 60) (.const (.bool true)) (.tmp 66), none, false⟩]
def ac31_G4 : List AOper :=
 [⟨(some 82), .faddr 1 1 false (.tmp 3), (some (81, false)), false⟩,
 ⟨(some 83), .load 1 false (.tmp 82), (some (81, false)), false⟩,
 ⟨(some 84), .faddr 0 9 true (.tmp 2), (some (81, false)), false⟩,
 ⟨(some 85), .faddr 1 1 false (.tmp 84), (some (81, false)), false⟩,
 ⟨(some 86), .load 1 false (.tmp 85), (some (81, false)), false⟩,
 ⟨(some 87), .bi .len [22].toArray 3 [(.tmp 86)], (some (81, false)), false⟩,
 ⟨(some 88), .bin .geq 3 (.tmp 83) (.tmp 87), (some (81, false)), false⟩,
 ⟨(some 89), .pick (.tmp 81) (.const (.bool true)) (.tmp 88), none, false⟩]
/-- (patchbay/expr.Scope).primary -/
def ac31 : AC :=
 .seq (.region false [⟨(some 2), .box false 46 (.tmp 0), none, false⟩,
 ⟨(some 3), .box false 53 (.tmp 1), none, false⟩,
 ⟨(some 4), .move (.const (.int .i64 0)), none, false⟩,
 ⟨(some 5), .move (.const (.int .i64 0)), none, false⟩])
 (.seq (.seq (.region false [⟨(some 10), .faddr 0 1 false (.tmp 3), none, false⟩,
 ⟨(some 11), .load 1 false (.tmp 10), none, false⟩])
 (.block 0 (.seq (.region false [⟨(some 13), .bin .eql 3 (.tmp 11) (.const (.int .i64 1)), none, false⟩,
 ⟨(some 12), .move (.tmp 13), none, false⟩])
 (.cond (.tmp 12)
 (.seq (.region false [⟨(some 15), .faddr 2 1 false (.tmp 3), none, false⟩,
 ⟨(some 16), .load 1 false (.tmp 15), none, false⟩,
 ⟨(some 17), .call (.func 40) [(.tmp 16)], none, false⟩,
 ⟨(some 14), .move (.tmp 17), none, false⟩,
 ⟨(some 18), .extract (.tmp 14) 0, none, false⟩,
 ⟨(some 19), .extract (.tmp 14) 1, none, false⟩,
 ⟨(some 6), .move (.tmp 18), none, false⟩,
 ⟨(some 7), .move (.tmp 19), none, false⟩])
 (.seq (.seq (.region true (⟨(some 20), .move (.tmp 7), none, false⟩ :: ⟨(some 21), .bin .eql 42 (.tmp 20) (.const (.int .i64 0)), none, false⟩ :: ⟨(some 22), .move (.tmp 21), none, false⟩ :: (ac31_G1 ++ [])))
 (.cond (.tmp 34)
 (.seq (.region false [⟨(some 4), .move (.const (.int .i64 0)), none, false⟩,
 ⟨(some 5), .move (.const (.int .i64 9)), none, false⟩])
 (.ret))
 (.skip)))
 (.seq (.region false [⟨(some 35), .move (.tmp 6), none, false⟩,
 ⟨(some 36), .move (.tmp 7), none, false⟩,
 ⟨(some 4), .move (.tmp 35), none, false⟩,
 ⟨(some 5), .move (.tmp 36), none, false⟩])
 (.ret))))
 (.seq (.region false [⟨(some 38), .bin .eql 3 (.tmp 11) (.const (.int .i64 2)), none, false⟩,
 ⟨(some 37), .move (.tmp 38), none, false⟩])
 (.cond (.tmp 37)
 (.seq (.region false [⟨(some 40), .load 10 true (.tmp 2), none, false⟩,
 ⟨(some 41), .faddr 1 1 false (.tmp 3), none, false⟩,
 ⟨(some 42), .load 1 false (.tmp 41), none, false⟩,
 ⟨(some 43), .faddr 2 1 false (.tmp 3), none, false⟩,
 ⟨(some 44), .load 1 false (.tmp 43), none, false⟩,
 ⟨(some 45), .call (.func 41) [(.tmp 40), (.tmp 42), (.tmp 44)], none, false⟩,
 ⟨(some 39), .move (.tmp 45), none, false⟩,
 ⟨(some 46), .extract (.tmp 39) 0, none, false⟩,
 ⟨(some 47), .extract (.tmp 39) 1, none, false⟩,
 ⟨(some 8), .alloc true 60 (.agg [(.string ⟨[].toArray⟩), (.int .i64 0)].toArray), none, false⟩,
 ⟨none, .store 2 (.tmp 8) (.tmp 46), none, false⟩,
 ⟨(some 9), .move (.tmp 47), none, false⟩])
 (.seq (.seq (.region false [⟨(some 48), .move (.tmp 9), none, false⟩,
 ⟨(some 49), .un .not (.tmp 48), none, false⟩])
 (.cond (.tmp 49)
 (.seq (.region false [⟨(some 4), .move (.const (.int .i64 0)), none, false⟩,
 ⟨(some 5), .move (.const (.int .i64 8)), none, false⟩])
 (.ret))
 (.skip)))
 (.seq (.region false [⟨(some 50), .faddr 1 1 false (.tmp 8), none, false⟩,
 ⟨(some 51), .load 1 false (.tmp 50), none, false⟩,
 ⟨(some 52), .call (.func 40) [(.tmp 51)], none, false⟩,
 ⟨(some 53), .extract (.tmp 52) 0, none, false⟩,
 ⟨(some 54), .extract (.tmp 52) 1, none, false⟩,
 ⟨(some 4), .move (.tmp 53), none, false⟩,
 ⟨(some 5), .move (.tmp 54), none, false⟩])
 (.ret))))
 (.seq (.region false [⟨(some 56), .bin .eql 3 (.tmp 11) (.const (.int .i64 3)), none, false⟩,
 ⟨(some 55), .move (.tmp 56), none, false⟩])
 (.cond (.tmp 55)
 (.seq (.seq (.region false (⟨(some 57), .faddr 1 1 false (.tmp 3), none, false⟩ :: ⟨(some 58), .load 1 false (.tmp 57), none, false⟩ :: ⟨(some 59), .bin .lss 3 (.tmp 58) (.const (.int .i64 0)), none, false⟩ :: ⟨(some 60), .move (.tmp 59), none, false⟩ :: (ac31_G3 ++ [])))
 (.cond (.tmp 67)
 (.seq (.region false [⟨(some 4), .move (.const (.int .i64 0)), none, false⟩,
 ⟨(some 5), .move (.const (.int .i64 8)), none, false⟩])
 (.ret))
 (.skip)))
 (.seq (.region false [⟨(some 68), .faddr 9 1 false (.tmp 2), none, false⟩,
 ⟨(some 69), .load 1 false (.tmp 68), none, false⟩,
 ⟨(some 70), .faddr 1 1 false (.tmp 3), none, false⟩,
 ⟨(some 71), .load 1 false (.tmp 70), none, false⟩,
 ⟨(some 72), .iaddr 2 (.tmp 69) (.tmp 71), none, false⟩,
 ⟨(some 73), .faddr 1 1 false (.tmp 72), none, false⟩,
 ⟨(some 74), .load 1 false (.tmp 73), none, false⟩,
 ⟨(some 75), .call (.func 40) [(.tmp 74)], none, false⟩,
 ⟨(some 76), .extract (.tmp 75) 0, none, false⟩,
 ⟨(some 77), .extract (.tmp 75) 1, none, false⟩,
 ⟨(some 4), .move (.tmp 76), none, false⟩,
 ⟨(some 5), .move (.tmp 77), none, false⟩])
 (.ret)))
 (.skip)))))))))
 (.seq (.seq (.region false (⟨(some 78), .faddr 1 1 false (.tmp 3), none, false⟩ :: ⟨(some 79), .load 1 false (.tmp 78), none, false⟩ :: ⟨(some 80), .bin .lss 3 (.tmp 79) (.const (.int .i64 0)), none, false⟩ :: ⟨(some 81), .move (.tmp 80), none, false⟩ :: (ac31_G4 ++ [])))
 (.cond (.tmp 89)
 (.seq (.region false [⟨(some 4), .move (.const (.int .i64 0)), none, false⟩,
 ⟨(some 5), .move (.const (.int .i64 8)), none, false⟩])
 (.ret))
 (.skip)))
 (.seq (.region false [⟨(some 4), .move (.const (.int .i64 1)), none, false⟩,
 ⟨(some 5), .move (.const (.int .i64 0)), none, false⟩])
 (.ret))))
theorem text31 : FnText Try.prog 31 [8] 90 2 ac31 [(4, none), (5, none)] :=
 ⟨Try.call31, follows, Try.f31, _, Try.func31, rfl, rfl, by decide, by kernel_rfl, by kernel_rfl⟩

def ac32_G1 : List AOper :=
 [⟨(some 17), .faddr 1 1 false (.tmp 2), (some (16, false)), false⟩,
 ⟨(some 18), .load 1 false (.tmp 17), (some (16, false)), false⟩,
 ⟨(some 19), .bin .gtr 3 (.tmp 18) (.const (.int .i64 31)), (some (16, false)), false⟩,
 ⟨(some 20), .pick (.tmp 16) (.const (.bool true)) (.tmp 19), none, false⟩]
def ac32_G2 : List AOper :=
 [⟨(some 35), .faddr 1 1 false (.tmp 2), (some (34, false)), false⟩,
 ⟨(some 36), .load 1 false (.tmp 35), (some (34, false)), false⟩,
 ⟨(some 37), .iaddrA 3 1 false (.tmp 3) (.const (.int .i64 0)), (some (34, false)), false⟩,
 ⟨(some 38), .load 1 false (.tmp 37), (some (34, false)), false⟩,
 ⟨(some 39), .faddr 2 1 false (.tmp 2), (some (34, false)), false⟩,
 ⟨(some 40), .load 1 false (.tmp 39), (some (34, false)), false⟩,
 ⟨(some 41), .bin .sub 3 (.tmp 38) (.tmp 40), (some (34, false)), false⟩,
 ⟨(some 42), .bin .gtr 3 (.tmp 36) (.tmp 41), (some (34, false)), false⟩,
 ⟨(some 43), .pick (.tmp 34) (.const (.bool true)) (.tmp 42), none, false⟩]
def ac32_G3 : List AOper :=
 [⟨(some 62), .iaddrA 3 1 false (.tmp 3) (.const (.int .i64 1)), (some (61, false)), false⟩,
 ⟨(some 63), .load 1 false (.tmp 62), (some (61, false)), false⟩,
 ⟨(some 64), .iaddrA 3 1 false (.tmp 3) (.const (.int .i64 2)), (some (61, false)), false⟩,
 ⟨(some 65), .load 1 false (.tmp 64), (some (61, false)), false⟩,
 ⟨(some 66), .bin .neq 3 (.tmp 63) (.tmp 65), (some (61, false)), false⟩,
 ⟨(some 67), .pick (.tmp 61) (.const (.bool true)) (.tmp 66), none, false⟩]
def ac32_G4 : List AOper :=
 [⟨(some 75), .iaddrA 3 1 false (.tmp 3) (.const (.int .i64 0)), (some (74, true)), false⟩,
 ⟨(some 76), .load 1 false (.tmp 75), (some (74, true)), false⟩,
 ⟨(some 77), .iaddrA 3 1 false (.tmp 3) (.const (.int .i64 1)), (some (74, true)), false⟩,
 ⟨(some 78), .load 1 false (.tmp 77), (some (74, true)), false⟩,
 ⟨(some 79), .bin .neq 3 (.tmp 76) (.tmp 78), (some (74, true)), false⟩,
 ⟨(some 80), .pick (.tmp 74) (.tmp 79) (.const (.bool false)), none, false⟩]
def ac32_G5 : List AOper :=
 [⟨(some 85), .faddr 0 1 false (.tmp 2), (some (84, false)), false⟩,
 ⟨(some 86), .load 1 false (.tmp 85), (some (84, false)), false⟩,
 ⟨(some 87), .bin .eql 3 (.tmp 86) (.const (.int .i64 16)), (some (84, false)), false⟩,
 ⟨(some 88), .pick (.tmp 84) (.const (.bool true)) (.tmp 87), none, false⟩]
/-- patchbay/expr.combine -/
def ac32 : AC :=
 .seq (.region false [⟨(some 2), .box false 53 (.tmp 0), none, false⟩,
 ⟨(some 3), .box false 89 (.tmp 1), none, false⟩,
 ⟨(some 4), .move (.const (.int .i64 0)), none, false⟩,
 ⟨(some 5), .move (.const (.int .i64 0)), none, false⟩])
 (.seq (.seq (.region false [⟨(some 8), .faddr 0 1 false (.tmp 2), none, false⟩,
 ⟨(some 9), .load 1 false (.tmp 8), none, false⟩])
 (.block 0 (.seq (.seq (.region false [⟨(some 11), .bin .eql 3 (.tmp 9) (.const (.int .i64 6)), none, false⟩,
 ⟨(some 10), .move (.tmp 11), none, false⟩])
 (.cond (.tmp 10)
 (.skip)
 (.region false [⟨(some 12), .bin .eql 3 (.tmp 9) (.const (.int .i64 7)), none, false⟩,
 ⟨(some 10), .move (.tmp 12), none, false⟩])))
 (.cond (.tmp 10)
 (.seq (.region false (⟨(some 13), .faddr 1 1 false (.tmp 2), none, false⟩ :: ⟨(some 14), .load 1 false (.tmp 13), none, false⟩ :: ⟨(some 15), .bin .lss 3 (.tmp 14) (.const (.int .i64 0)), none, false⟩ :: ⟨(some 16), .move (.tmp 15), none, false⟩ :: (ac32_G1 ++ [])))
 (.cond (.tmp 20)
 (.seq (.region false [⟨(some 4), .move (.const (.int .i64 0)), none, false⟩,
 ⟨(some 5), .move (.const (.int .i64 9)), none, false⟩])
 (.ret))
 (.skip)))
 (.seq (.region false [⟨(some 22), .bin .eql 3 (.tmp 9) (.const (.int .i64 8)), none, false⟩,
 ⟨(some 21), .move (.tmp 22), none, false⟩])
 (.cond (.tmp 21)
 (.seq (.seq (.region false [⟨(some 23), .faddr 1 1 false (.tmp 2), none, false⟩,
 ⟨(some 24), .load 1 false (.tmp 23), none, false⟩,
 ⟨(some 25), .bin .lss 3 (.tmp 24) (.const (.int .i64 0)), none, false⟩])
 (.cond (.tmp 25)
 (.seq (.region false [⟨(some 4), .move (.const (.int .i64 0)), none, false⟩,
 ⟨(some 5), .move (.const (.int .i64 9)), none, false⟩])
 (.ret))
 (.skip)))
 (.seq (.seq (.region false [⟨(some 27), .faddr 2 1 false (.tmp 2), none, false⟩,
 ⟨(some 28), .load 1 false (.tmp 27), none, false⟩,
 ⟨(some 29), .call (.func 40) [(.tmp 28)], none, false⟩,
 ⟨(some 26), .move (.tmp 29), none, false⟩,
 ⟨(some 30), .extract (.tmp 26) 0, none, false⟩,
 ⟨(some 31), .extract (.tmp 26) 1, none, false⟩,
 ⟨(some 6), .move (.tmp 30), none, false⟩,
 ⟨(some 7), .move (.tmp 31), none, false⟩])
 (.seq (.region false (⟨(some 32), .move (.tmp 7), none, false⟩ :: ⟨(some 33), .bin .neq 42 (.tmp 32) (.const (.int .i64 0)), none, false⟩ :: ⟨(some 34), .move (.tmp 33), none, false⟩ :: (ac32_G2 ++ [])))
 (.cond (.tmp 43)
 (.seq (.region false [⟨(some 4), .move (.const (.int .i64 0)), none, false⟩,
 ⟨(some 5), .move (.const (.int .i64 10)), none, false⟩])
 (.ret))
 (.skip))))
 (.seq (.region false [⟨(some 44), .faddr 2 1 false (.tmp 2), none, false⟩,
 ⟨(some 45), .load 1 false (.tmp 44), none, false⟩,
 ⟨(some 4), .move (.tmp 45), none, false⟩,
 ⟨(some 5), .move (.const (.int .i64 0)), none, false⟩])
 (.ret))))
 (.seq (.region false [⟨(some 47), .bin .eql 3 (.tmp 9) (.const (.int .i64 14)), none, false⟩,
 ⟨(some 46), .move (.tmp 47), none, false⟩])
 (.cond (.tmp 46)
 (.seq (.region false [⟨(some 48), .iaddrA 3 1 false (.tmp 3) (.const (.int .i64 0)), none, false⟩,
 ⟨(some 49), .load 1 false (.tmp 48), none, false⟩,
 ⟨(some 50), .iaddrA 3 1 false (.tmp 3) (.const (.int .i64 1)), none, false⟩,
 ⟨(some 51), .load 1 false (.tmp 50), none, false⟩,
 ⟨(some 52), .bin .add 3 (.tmp 49) (.tmp 51), none, false⟩,
 ⟨(some 53), .call (.func 40) [(.tmp 52)], none, false⟩,
 ⟨(some 54), .extract (.tmp 53) 0, none, false⟩,
 ⟨(some 55), .extract (.tmp 53) 1, none, false⟩,
 ⟨(some 4), .move (.tmp 54), none, false⟩,
 ⟨(some 5), .move (.tmp 55), none, false⟩])
 (.ret))
 (.seq (.region false [⟨(some 57), .bin .eql 3 (.tmp 9) (.const (.int .i64 17)), none, false⟩,
 ⟨(some 56), .move (.tmp 57), none, false⟩])
 (.cond (.tmp 56)
 (.seq (.seq (.region false (⟨(some 58), .iaddrA 3 1 false (.tmp 3) (.const (.int .i64 0)), none, false⟩ :: ⟨(some 59), .load 1 false (.tmp 58), none, false⟩ :: ⟨(some 60), .bin .neq 3 (.tmp 59) (.const (.int .i64 1)), none, false⟩ :: ⟨(some 61), .move (.tmp 60), none, false⟩ :: (ac32_G3 ++ [])))
 (.cond (.tmp 67)
 (.seq (.region false [⟨(some 4), .move (.const (.int .i64 0)), none, false⟩,
 ⟨(some 5), .move (.const (.int .i64 10)), none, false⟩])
 (.ret))
 (.skip)))
 (.seq (.region false [⟨(some 68), .iaddrA 3 1 false (.tmp 3) (.const (.int .i64 1)), none, false⟩,
 ⟨(some 69), .load 1 false (.tmp 68), none, false⟩,
 ⟨(some 4), .move (.tmp 69), none, false⟩,
 ⟨(some 5), .move (.const (.int .i64 0)), none, false⟩])
 (.ret)))
 (.skip)))))))))))
 (.seq (.seq (.region false (⟨(some 70), .faddr 0 1 false (.tmp 2), none, false⟩ :: ⟨(some 71), .load 1 false (.tmp 70), none, false⟩ :: ⟨(some 72), .call (.func 20) [(.tmp 71)], none, false⟩ :: ⟨(some 73), .bin .eql 3 (.tmp 72) (.const (.int .i64 2)), none, false⟩ :: ⟨(some 74), .move (.tmp 73), none, false⟩ :: (ac32_G4 ++ [])))
 (.cond (.tmp 80)
 (.seq (.region false [⟨(some 4), .move (.const (.int .i64 0)), none, false⟩,
 ⟨(some 5), .move (.const (.int .i64 10)), none, false⟩])
 (.ret))
 (.skip)))
 (.seq (.seq (.region false (⟨(some 81), .faddr 0 1 false (.tmp 2), none, false⟩ :: ⟨(some 82), .load 1 false (.tmp 81), none, false⟩ :: ⟨(some 83), .bin .eql 3 (.tmp 82) (.const (.int .i64 15)), none, false⟩ :: ⟨(some 84), .move (.tmp 83), none, false⟩ :: (ac32_G5 ++ [])))
 (.cond (.tmp 88)
 (.seq (.region false [⟨(some 4), .move (.const (.int .i64 1)), none, false⟩,
 ⟨(some 5), .move (.const (.int .i64 0)), none, false⟩])
 (.ret))
 (.skip)))
 (.seq (.region false [⟨(some 89), .iaddrA 3 1 false (.tmp 3) (.const (.int .i64 0)), none, false⟩,
 ⟨(some 90), .load 1 false (.tmp 89), none, false⟩,
 ⟨(some 4), .move (.tmp 90), none, false⟩,
 ⟨(some 5), .move (.const (.int .i64 0)), none, false⟩])
 (.ret)))))
theorem text32 : FnText Try.prog 32 [] 91 2 ac32 [(4, none), (5, none)] :=
 ⟨Try.call32, follows, Try.f32, _, Try.func32, rfl, rfl, by decide, by kernel_rfl, by kernel_rfl⟩

def ac19_L1 : AC :=
 .seq (.region false [⟨(some 45), .bin .lss 3 (.tmp 44) (.tmp 43), none, false⟩])
 (.seq (.cond (.tmp 45)
 (.skip)
 (.exit 1))
 (.seq (.block 2 (.seq (.region false [⟨(some 46), .move (.tmp 44), none, false⟩,
 ⟨(some 11), .move (.tmp 46), none, false⟩])
 (.seq (.region false [⟨(some 48), .move (.tmp 11), none, false⟩,
 ⟨(some 49), .load 10 true (.tmp 3), none, false⟩,
 ⟨(some 50), .move (.tmp 1), none, false⟩,
 ⟨(some 51), .move (.tmp 7), none, false⟩,
 ⟨(some 52), .call (.func 19) [(.tmp 49), (.tmp 50), (.tmp 51)], none, false⟩,
 ⟨(some 47), .move (.tmp 52), none, false⟩,
 ⟨(some 53), .extract (.tmp 47) 0, none, false⟩,
 ⟨(some 54), .extract (.tmp 47) 1, none, false⟩,
 ⟨(some 55), .extract (.tmp 47) 2, none, false⟩,
 ⟨(some 56), .iaddrA 3 1 false (.tmp 10) (.tmp 48), none, false⟩,
 ⟨none, .store 1 (.tmp 56) (.tmp 53), none, false⟩,
 ⟨(some 7), .move (.tmp 54), none, false⟩,
 ⟨(some 8), .move (.tmp 55), none, false⟩])
 (.seq (.region false [⟨(some 57), .move (.tmp 8), none, false⟩,
 ⟨(some 58), .bin .neq 42 (.tmp 57) (.const (.int .i64 0)), none, false⟩])
 (.cond (.tmp 58)
 (.seq (.region false [⟨(some 59), .move (.tmp 8), none, false⟩,
 ⟨(some 6), .move (.const (.int .i64 0)), none, false⟩,
 ⟨(some 7), .move (.const (.int .i64 0)), none, false⟩,
 ⟨(some 8), .move (.tmp 59), none, false⟩])
 (.ret))
 (.skip))))))
 (.region false [⟨(some 60), .bin .add 3 (.tmp 44) (.const (.int .i64 1)), none, false⟩,
 ⟨(some 44), .move (.tmp 60), none, false⟩])))
/-- (patchbay/expr.Scope).check -/
def ac19 : AC :=
 .seq (.region false [⟨(some 3), .box false 46 (.tmp 0), none, false⟩,
 ⟨(some 6), .move (.const (.int .i64 0)), none, false⟩,
 ⟨(some 7), .move (.const (.int .i64 0)), none, false⟩,
 ⟨(some 8), .move (.const (.int .i64 0)), none, false⟩])
 (.seq (.seq (.region false [⟨(some 12), .move (.tmp 2), none, false⟩,
 ⟨(some 13), .move (.tmp 1), none, false⟩,
 ⟨(some 14), .bi .len [32].toArray 3 [(.tmp 13)], none, false⟩,
 ⟨(some 15), .bin .geq 3 (.tmp 12) (.tmp 14), none, false⟩])
 (.cond (.tmp 15)
 (.seq (.region false [⟨(some 6), .move (.const (.int .i64 0)), none, false⟩,
 ⟨(some 7), .move (.const (.int .i64 0)), none, false⟩,
 ⟨(some 8), .move (.const (.int .i64 3)), none, false⟩])
 (.ret))
 (.skip)))
 (.seq (.region false [⟨(some 16), .move (.tmp 1), none, false⟩,
 ⟨(some 17), .move (.tmp 2), none, false⟩,
 ⟨(some 18), .iaddr 3 (.tmp 16) (.tmp 17), none, false⟩,
 ⟨(some 19), .faddr 0 1 false (.tmp 18), none, false⟩,
 ⟨(some 20), .load 1 false (.tmp 19), none, false⟩,
 ⟨(some 21), .call (.func 20) [(.tmp 20)], none, false⟩,
 ⟨(some 9), .move (.tmp 21), none, false⟩])
 (.seq (.block 0 (.seq (.region false [⟨(some 23), .move (.tmp 9), none, false⟩,
 ⟨(some 24), .bin .lss 3 (.tmp 23) (.const (.int .i64 0)), none, false⟩,
 ⟨(some 22), .move (.tmp 24), none, false⟩])
 (.cond (.tmp 22)
 (.seq (.region false [⟨(some 6), .move (.const (.int .i64 0)), none, false⟩,
 ⟨(some 7), .move (.const (.int .i64 0)), none, false⟩,
 ⟨(some 8), .move (.const (.int .i64 11)), none, false⟩])
 (.ret))
 (.seq (.region false [⟨(some 26), .move (.tmp 9), none, false⟩,
 ⟨(some 27), .bin .eql 3 (.tmp 26) (.const (.int .i64 0)), none, false⟩,
 ⟨(some 25), .move (.tmp 27), none, false⟩])
 (.cond (.tmp 25)
 (.seq (.region true [⟨(some 29), .load 10 true (.tmp 3), none, false⟩,
 ⟨(some 30), .move (.tmp 1), none, false⟩,
 ⟨(some 31), .move (.tmp 2), none, false⟩,
 ⟨(some 32), .iaddr 3 (.tmp 30) (.tmp 31), none, false⟩,
 ⟨(some 33), .load 3 true (.tmp 32), none, false⟩,
 ⟨(some 34), .call (.func 31) [(.tmp 29), (.tmp 33)], none, false⟩,
 ⟨(some 28), .move (.tmp 34), none, false⟩,
 ⟨(some 35), .extract (.tmp 28) 0, none, false⟩,
 ⟨(some 36), .extract (.tmp 28) 1, none, false⟩,
 ⟨(some 6), .move (.tmp 35), none, false⟩,
 ⟨(some 8), .move (.tmp 36), none, false⟩])
 (.seq (.region false [⟨(some 37), .move (.tmp 6), none, false⟩,
 ⟨(some 38), .move (.tmp 2), none, false⟩,
 ⟨(some 39), .bin .add 3 (.tmp 38) (.const (.int .i64 1)), none, false⟩,
 ⟨(some 40), .move (.tmp 8), none, false⟩,
 ⟨(some 6), .move (.tmp 37), none, false⟩,
 ⟨(some 7), .move (.tmp 39), none, false⟩,
 ⟨(some 8), .move (.tmp 40), none, false⟩])
 (.ret)))
 (.skip))))))
 (.seq (.region false [⟨(some 10), .alloc true 89 (.agg [(.int .i64 0), (.int .i64 0), (.int .i64 0)].toArray), none, false⟩])
 (.seq (.region false [⟨(some 41), .move (.tmp 2), none, false⟩,
 ⟨(some 42), .bin .add 3 (.tmp 41) (.const (.int .i64 1)), none, false⟩,
 ⟨(some 7), .move (.tmp 42), none, false⟩])
 (.seq (.seq (.region false [⟨(some 43), .move (.tmp 9), none, false⟩,
 ⟨(some 44), .move (.const (.int .i64 0)), none, false⟩])
 (.block 1 (.loop ac19_L1)))
 (.seq (.region true [⟨(some 62), .move (.tmp 1), none, false⟩,
 ⟨(some 63), .move (.tmp 2), none, false⟩,
 ⟨(some 64), .iaddr 3 (.tmp 62) (.tmp 63), none, false⟩,
 ⟨(some 65), .load 3 true (.tmp 64), none, false⟩,
 ⟨(some 66), .load 3 true (.tmp 10), none, false⟩,
 ⟨(some 67), .call (.func 32) [(.tmp 65), (.tmp 66)], none, false⟩,
 ⟨(some 61), .move (.tmp 67), none, false⟩,
 ⟨(some 68), .extract (.tmp 61) 0, none, false⟩,
 ⟨(some 69), .extract (.tmp 61) 1, none, false⟩,
 ⟨(some 6), .move (.tmp 68), none, false⟩,
 ⟨(some 8), .move (.tmp 69), none, false⟩])
 (.seq (.region false [⟨(some 70), .move (.tmp 6), none, false⟩,
 ⟨(some 71), .move (.tmp 7), none, false⟩,
 ⟨(some 72), .move (.tmp 8), none, false⟩,
 ⟨(some 6), .move (.tmp 70), none, false⟩,
 ⟨(some 7), .move (.tmp 71), none, false⟩,
 ⟨(some 8), .move (.tmp 72), none, false⟩])
 (.ret)))))))))
theorem text19 : FnText Try.prog 19 [10] 73 3 ac19 [(6, none), (7, none), (8, none)] :=
 ⟨Try.call19, follows, Try.f19, _, Try.func19, rfl, rfl, by decide, by kernel_rfl, by kernel_rfl⟩


/-- patchbay/expr.Check -/
def ac7 : AC :=
 .seq (.region false [⟨(some 3), .box false 46 (.tmp 1), none, false⟩,
 ⟨(some 4), .move (.const (.int .i64 0)), none, false⟩,
 ⟨(some 5), .move (.const (.int .i64 0)), none, false⟩])
 (.seq (.seq (.region false [⟨(some 7), .move (.tmp 0), none, false⟩,
 ⟨(some 8), .bi .len [32].toArray 3 [(.tmp 7)], none, false⟩,
 ⟨(some 9), .bin .gtr 3 (.tmp 8) (.const (.int .i64 24)), none, false⟩])
 (.cond (.tmp 9)
 (.seq (.region false [⟨(some 4), .move (.const (.int .i64 0)), none, false⟩,
 ⟨(some 5), .move (.const (.int .i64 12)), none, false⟩])
 (.ret))
 (.skip)))
 (.seq (.region false [⟨(some 11), .load 10 true (.tmp 3), none, false⟩,
 ⟨(some 12), .move (.tmp 0), none, false⟩,
 ⟨(some 13), .call (.func 19) [(.tmp 11), (.tmp 12), (.const (.int .i64 0))], none, false⟩,
 ⟨(some 10), .move (.tmp 13), none, false⟩,
 ⟨(some 14), .extract (.tmp 10) 0, none, false⟩,
 ⟨(some 15), .extract (.tmp 10) 1, none, false⟩,
 ⟨(some 16), .extract (.tmp 10) 2, none, false⟩,
 ⟨(some 4), .move (.tmp 14), none, false⟩,
 ⟨(some 6), .move (.tmp 15), none, false⟩,
 ⟨(some 5), .move (.tmp 16), none, false⟩])
 (.seq (.block 0 (.seq (.region false [⟨(some 18), .move (.tmp 5), none, false⟩,
 ⟨(some 19), .bin .neq 42 (.tmp 18) (.const (.int .i64 0)), none, false⟩,
 ⟨(some 17), .move (.tmp 19), none, false⟩])
 (.cond (.tmp 17)
 (.seq (.region false [⟨(some 20), .move (.tmp 5), none, false⟩,
 ⟨(some 4), .move (.const (.int .i64 0)), none, false⟩,
 ⟨(some 5), .move (.tmp 20), none, false⟩])
 (.ret))
 (.seq (.region false [⟨(some 22), .move (.tmp 6), none, false⟩,
 ⟨(some 23), .move (.tmp 0), none, false⟩,
 ⟨(some 24), .bi .len [32].toArray 3 [(.tmp 23)], none, false⟩,
 ⟨(some 25), .bin .lss 3 (.tmp 22) (.tmp 24), none, false⟩,
 ⟨(some 21), .move (.tmp 25), none, false⟩])
 (.cond (.tmp 21)
 (.seq (.region false [⟨(some 4), .move (.const (.int .i64 0)), none, false⟩,
 ⟨(some 5), .move (.const (.int .i64 4)), none, false⟩])
 (.ret))
 (.skip))))))
 (.seq (.region false [⟨(some 26), .move (.tmp 4), none, false⟩,
 ⟨(some 4), .move (.tmp 26), none, false⟩,
 ⟨(some 5), .move (.const (.int .i64 0)), none, false⟩])
 (.ret)))))
theorem text7 : FnText Try.prog 7 [] 27 2 ac7 [(4, none), (5, none)] :=
 ⟨Try.call7, follows, Try.f7, _, Try.func7, rfl, rfl, by decide, by kernel_rfl, by kernel_rfl⟩

def ac6_G1 : List AOper :=
 [⟨(some 87), .move (.tmp 7), (some (86, false)), false⟩,
 ⟨(some 88), .bin .neq 42 (.tmp 87) (.const (.int .i64 0)), (some (86, false)), false⟩,
 ⟨(some 89), .pick (.tmp 86) (.const (.bool true)) (.tmp 88), none, false⟩]
def ac6_G2 : List AOper :=
 [⟨(some 91), .move (.tmp 8), (some (90, false)), false⟩,
 ⟨(some 92), .bin .neq 3 (.tmp 91) (.const (.int .i64 12)), (some (90, false)), false⟩,
 ⟨(some 93), .pick (.tmp 90) (.const (.bool true)) (.tmp 92), none, false⟩]
def ac6_G3 : List AOper :=
 [⟨(some 95), .move (.tmp 9), (some (94, false)), false⟩,
 ⟨(some 96), .bin .neq 42 (.tmp 95) (.const (.int .i64 0)), (some (94, false)), false⟩,
 ⟨(some 97), .pick (.tmp 94) (.const (.bool true)) (.tmp 96), none, false⟩]
def ac6_G4 : List AOper :=
 [⟨(some 99), .move (.tmp 11), (some (98, false)), false⟩,
 ⟨(some 100), .bin .neq 42 (.tmp 99) (.const (.int .i64 10)), (some (98, false)), false⟩,
 ⟨(some 101), .pick (.tmp 98) (.const (.bool true)) (.tmp 100), none, false⟩]
def ac6_G5 : List AOper :=
 [⟨(some 103), .move (.tmp 13), (some (102, false)), false⟩,
 ⟨(some 104), .bin .neq 42 (.tmp 103) (.const (.int .i64 3)), (some (102, false)), false⟩,
 ⟨(some 105), .pick (.tmp 102) (.const (.bool true)) (.tmp 104), none, false⟩]
def ac6_G6 : List AOper :=
 [⟨(some 107), .move (.tmp 15), (some (106, false)), false⟩,
 ⟨(some 108), .bin .neq 42 (.tmp 107) (.const (.int .i64 4)), (some (106, false)), false⟩,
 ⟨(some 109), .pick (.tmp 106) (.const (.bool true)) (.tmp 108), none, false⟩]
def ac6_G7 : List AOper :=
 [⟨(some 116), .move (.tmp 4), (some (115, true)), false⟩,
 ⟨(some 117), .load 10 true (.tmp 2), (some (115, true)), false⟩,
 ⟨(some 118), .load 4 true (.tmp 16), (some (115, true)), false⟩,
 ⟨(some 119), .call (.func 11) [(.tmp 116), (.tmp 117), (.tmp 118), (.const (.slice none 0 0))], (some (115, true)), false⟩,
 ⟨(some 120), .bin .eql 50 (.tmp 119) (.const (.int .u32 1289)), (some (115, true)), false⟩,
 ⟨(some 121), .pick (.tmp 115) (.tmp 120) (.const (.bool false)), none, false⟩]
def ac6_G8 : List AOper :=
 [⟨(some 123), .move (.tmp 5), (some (122, true)), false⟩,
 ⟨(some 124), .load 10 true (.tmp 2), (some (122, true)), false⟩,
 ⟨(some 125), .load 4 true (.tmp 16), (some (122, true)), false⟩,
 ⟨(some 126), .call (.func 11) [(.tmp 123), (.tmp 124), (.tmp 125), (.const (.slice none 0 0))], (some (122, true)), false⟩,
 ⟨(some 127), .bin .eql 50 (.tmp 126) (.const (.int .u32 33)), (some (122, true)), false⟩,
 ⟨(some 128), .pick (.tmp 122) (.tmp 127) (.const (.bool false)), none, false⟩]
def ac6_G9 : List AOper :=
 [⟨(some 130), .move (.tmp 5), (some (129, true)), false⟩,
 ⟨(some 131), .load 10 true (.tmp 2), (some (129, true)), false⟩,
 ⟨(some 132), .load 4 true (.tmp 17), (some (129, true)), false⟩,
 ⟨(some 133), .call (.func 11) [(.tmp 130), (.tmp 131), (.tmp 132), (.const (.slice none 0 0))], (some (129, true)), false⟩,
 ⟨(some 134), .bin .eql 50 (.tmp 133) (.const (.int .u32 7)), (some (129, true)), false⟩,
 ⟨(some 135), .pick (.tmp 129) (.tmp 134) (.const (.bool false)), none, false⟩]
def ac6_G10 : List AOper :=
 [⟨(some 137), .call (.func 14) [(.const (.int .i64 1))], (some (136, true)), false⟩,
 ⟨(some 138), .call (.func 14) [(.const (.int .i64 1))], (some (136, true)), false⟩,
 ⟨(some 139), .bslice false 53 3 false [(.tmp 137), (.tmp 138)], (some (136, true)), false⟩,
 ⟨(some 140), .call (.func 9) [(.tmp 139), (.const (.int .i64 0))], (some (136, true)), false⟩,
 ⟨(some 141), .bin .eql 3 (.tmp 140) (.const (.int .i64 1)), (some (136, true)), false⟩,
 ⟨(some 142), .pick (.tmp 136) (.tmp 141) (.const (.bool false)), none, false⟩]
def ac6_G11 : List AOper :=
 [⟨(some 144), .move (.tmp 5), (some (143, true)), false⟩,
 ⟨(some 145), .call (.func 16) [(.tmp 144)], (some (143, true)), false⟩,
 ⟨(some 146), .build [(.int .i64 0), (.int .i64 0)] [], (some (143, true)), false⟩,
 ⟨(some 147), .bslice false 68 2 false [(.tmp 146)], (some (143, true)), false⟩,
 ⟨(some 148), .call (.func 15) [(.tmp 145), (.tmp 147)], (some (143, true)), false⟩,
 ⟨(some 149), .pick (.tmp 143) (.tmp 148) (.const (.bool false)), none, false⟩]
def ac6_G12 : List AOper :=
 [⟨(some 151), .move (.tmp 5), (some (150, true)), false⟩,
 ⟨(some 152), .call (.func 18) [(.tmp 151)], (some (150, true)), false⟩,
 ⟨(some 153), .bslice false 3 1 false [(.const (.int .i64 0))], (some (150, true)), false⟩,
 ⟨(some 154), .call (.func 17) [(.tmp 152), (.tmp 153)], (some (150, true)), false⟩,
 ⟨(some 155), .pick (.tmp 150) (.tmp 154) (.const (.bool false)), none, false⟩]
/-- patchbay/patchbaylaw13.awake -/
def ac6 : AC :=
 .seq (.region false [⟨(some 0), .move (.const (.bool false)), none, false⟩])
 (.seq (.region false [⟨(some 18), .build [(.string ⟨[].toArray⟩), (.int .i64 0)] [(0, 1, (.const (.string ⟨[102].toArray⟩))), (1, 1, (.const (.int .i64 8)))], none, false⟩,
 ⟨(some 19), .bslice false 60 2 false [(.tmp 18)], none, false⟩,
 ⟨(some 20), .build [(.string ⟨[].toArray⟩), (.slice none 0 0)] [(0, 1, (.const (.string ⟨[104].toArray⟩))), (1, 1, (.tmp 19))], none, false⟩,
 ⟨(some 21), .bslice false 62 2 false [(.tmp 20)], none, false⟩,
 ⟨(some 22), .build [(.string ⟨[].toArray⟩), (.slice none 0 0), (.slice none 0 0), (.slice none 0 0), (.slice none 0 0), (.slice none 0 0), (.slice none 0 0), (.slice none 0 0), (.slice none 0 0)] [(1, 1, (.tmp 21))], none, false⟩,
 ⟨(some 1), .alloc true 31 (.agg [(.string ⟨[].toArray⟩), (.slice none 0 0), (.slice none 0 0), (.slice none 0 0), (.slice none 0 0), (.slice none 0 0), (.slice none 0 0), (.slice none 0 0), (.slice none 0 0)].toArray), none, false⟩,
 ⟨none, .store 9 (.tmp 1) (.tmp 22), none, false⟩])
 (.seq (.region false [⟨(some 23), .load 9 true (.tmp 1), none, false⟩,
 ⟨(some 24), .build [(.string ⟨[].toArray⟩), (.int .i64 0)] [(0, 1, (.const (.string ⟨[118].toArray⟩))), (1, 1, (.const (.int .i64 4)))], none, false⟩,
 ⟨(some 25), .bslice false 60 2 false [(.tmp 24)], none, false⟩,
 ⟨(some 26), .build [(.string ⟨[].toArray⟩), (.slice none 0 0), (.slice none 0 0), (.slice none 0 0), (.slice none 0 0), (.slice none 0 0), (.slice none 0 0), (.slice none 0 0), (.slice none 0 0), (.slice none 0 0)] [(0, 9, (.tmp 23)), (9, 1, (.tmp 25))], none, false⟩,
 ⟨(some 2), .alloc true 46 (.agg [(.string ⟨[].toArray⟩), (.slice none 0 0), (.slice none 0 0), (.slice none 0 0), (.slice none 0 0), (.slice none 0 0), (.slice none 0 0), (.slice none 0 0), (.slice none 0 0), (.slice none 0 0)].toArray), none, false⟩,
 ⟨none, .store 10 (.tmp 2) (.tmp 26), none, false⟩])
 (.seq (.region false [⟨(some 27), .build [(.int .i64 0), (.int .i64 0), (.int .i64 0)] [(0, 1, (.const (.int .i64 9)))], none, false⟩,
 ⟨(some 28), .call (.func 14) [(.const (.int .i64 250))], none, false⟩,
 ⟨(some 29), .call (.func 14) [(.const (.int .i64 10))], none, false⟩,
 ⟨(some 30), .bslice false 53 3 false [(.tmp 27), (.tmp 28), (.tmp 29)], none, false⟩,
 ⟨(some 3), .move (.tmp 30), none, false⟩])
 (.seq (.region false [⟨(some 31), .build [(.int .i64 0), (.int .i64 0), (.int .i64 0)] [(0, 1, (.const (.int .i64 14)))], none, false⟩,
 ⟨(some 32), .build [(.int .i64 0), (.int .i64 0), (.int .i64 0)] [(0, 1, (.const (.int .i64 1))), (1, 1, (.const (.int .i64 5))), (2, 1, (.const (.int .i64 4)))], none, false⟩,
 ⟨(some 33), .call (.func 14) [(.const (.int .i64 9))], none, false⟩,
 ⟨(some 34), .bslice false 53 3 false [(.tmp 31), (.tmp 32), (.tmp 33)], none, false⟩,
 ⟨(some 4), .move (.tmp 34), none, false⟩])
 (.seq (.region false [⟨(some 35), .build [(.int .i64 0), (.int .i64 0), (.int .i64 0)] [(0, 1, (.const (.int .i64 17)))], none, false⟩,
 ⟨(some 36), .build [(.int .i64 0), (.int .i64 0), (.int .i64 0)] [(0, 1, (.const (.int .i64 4)))], none, false⟩,
 ⟨(some 37), .build [(.int .i64 0), (.int .i64 0), (.int .i64 0)] [(0, 1, (.const (.int .i64 2)))], none, false⟩,
 ⟨(some 38), .call (.func 14) [(.const (.int .i64 7))], none, false⟩,
 ⟨(some 39), .bslice false 53 3 false [(.tmp 35), (.tmp 36), (.tmp 37), (.tmp 38)], none, false⟩,
 ⟨(some 5), .move (.tmp 39), none, false⟩])
 (.seq (.region false [⟨(some 41), .move (.tmp 3), none, false⟩,
 ⟨(some 42), .load 10 true (.tmp 2), none, false⟩,
 ⟨(some 43), .call (.func 7) [(.tmp 41), (.tmp 42)], none, false⟩,
 ⟨(some 40), .move (.tmp 43), none, false⟩,
 ⟨(some 44), .extract (.tmp 40) 0, none, false⟩,
 ⟨(some 45), .extract (.tmp 40) 1, none, false⟩,
 ⟨(some 6), .move (.tmp 44), none, false⟩,
 ⟨(some 7), .move (.tmp 45), none, false⟩])
 (.seq (.region false [⟨(some 47), .move (.tmp 4), none, false⟩,
 ⟨(some 48), .load 10 true (.tmp 2), none, false⟩,
 ⟨(some 49), .call (.func 7) [(.tmp 47), (.tmp 48)], none, false⟩,
 ⟨(some 46), .move (.tmp 49), none, false⟩,
 ⟨(some 50), .extract (.tmp 46) 0, none, false⟩,
 ⟨(some 51), .extract (.tmp 46) 1, none, false⟩,
 ⟨(some 8), .move (.tmp 50), none, false⟩,
 ⟨(some 9), .move (.tmp 51), none, false⟩])
 (.seq (.region true [⟨(some 53), .build [(.int .i64 0), (.int .i64 0), (.int .i64 0)] [(0, 1, (.const (.int .i64 9)))], none, false⟩,
 ⟨(some 54), .call (.func 14) [(.const (.int .i64 1))], none, false⟩,
 ⟨(some 55), .build [(.int .i64 0), (.int .i64 0), (.int .i64 0)] [(0, 1, (.const (.int .i64 3)))], none, false⟩,
 ⟨(some 56), .bslice false 53 3 false [(.tmp 53), (.tmp 54), (.tmp 55)], none, false⟩,
 ⟨(some 57), .load 10 true (.tmp 2), none, false⟩,
 ⟨(some 58), .call (.func 7) [(.tmp 56), (.tmp 57)], none, false⟩,
 ⟨(some 52), .move (.tmp 58), none, false⟩,
 ⟨(some 59), .extract (.tmp 52) 0, none, false⟩,
 ⟨(some 60), .extract (.tmp 52) 1, none, false⟩,
 ⟨(some 10), .move (.tmp 59), none, false⟩,
 ⟨(some 11), .move (.tmp 60), none, false⟩])
 (.seq (.region true [⟨(some 62), .move (.tmp 3), none, false⟩,
 ⟨(some 63), .slice 32 3 (.tmp 62) none (some (.const (.int .i64 2))) none, none, false⟩,
 ⟨(some 64), .load 10 true (.tmp 2), none, false⟩,
 ⟨(some 65), .call (.func 7) [(.tmp 63), (.tmp 64)], none, false⟩,
 ⟨(some 61), .move (.tmp 65), none, false⟩,
 ⟨(some 66), .extract (.tmp 61) 0, none, false⟩,
 ⟨(some 67), .extract (.tmp 61) 1, none, false⟩,
 ⟨(some 12), .move (.tmp 66), none, false⟩,
 ⟨(some 13), .move (.tmp 67), none, false⟩])
 (.seq (.region true [⟨(some 69), .call (.func 14) [(.const (.int .i64 1))], none, false⟩,
 ⟨(some 70), .call (.func 14) [(.const (.int .i64 1))], none, false⟩,
 ⟨(some 71), .bslice false 53 3 false [(.tmp 69), (.tmp 70)], none, false⟩,
 ⟨(some 72), .load 10 true (.tmp 2), none, false⟩,
 ⟨(some 73), .call (.func 7) [(.tmp 71), (.tmp 72)], none, false⟩,
 ⟨(some 68), .move (.tmp 73), none, false⟩,
 ⟨(some 74), .extract (.tmp 68) 0, none, false⟩,
 ⟨(some 75), .extract (.tmp 68) 1, none, false⟩,
 ⟨(some 14), .move (.tmp 74), none, false⟩,
 ⟨(some 15), .move (.tmp 75), none, false⟩])
 (.seq (.region false [⟨(some 76), .bslice false 4 1 false [(.const (.bool true))], none, false⟩,
 ⟨(some 77), .bslice false 50 1 false [(.const (.int .u32 33))], none, false⟩,
 ⟨(some 78), .bslice false 35 1 false [(.tmp 77)], none, false⟩,
 ⟨(some 79), .build [(.slice none 0 0), (.slice none 0 0), (.slice none 0 0), (.slice none 0 0)] [(0, 1, (.tmp 76)), (1, 1, (.tmp 78))], none, false⟩,
 ⟨(some 16), .alloc true 38 (.agg [(.slice none 0 0), (.slice none 0 0), (.slice none 0 0), (.slice none 0 0)].toArray), none, false⟩,
 ⟨none, .store 4 (.tmp 16) (.tmp 79), none, false⟩])
 (.seq (.region false [⟨(some 80), .bslice false 4 1 false [(.const (.bool false))], none, false⟩,
 ⟨(some 81), .bslice false 50 1 false [(.const (.int .u32 0))], none, false⟩,
 ⟨(some 82), .bslice false 35 1 false [(.tmp 81)], none, false⟩,
 ⟨(some 83), .build [(.slice none 0 0), (.slice none 0 0), (.slice none 0 0), (.slice none 0 0)] [(0, 1, (.tmp 80)), (1, 1, (.tmp 82))], none, false⟩,
 ⟨(some 17), .alloc true 38 (.agg [(.slice none 0 0), (.slice none 0 0), (.slice none 0 0), (.slice none 0 0)].toArray), none, false⟩,
 ⟨none, .store 4 (.tmp 17) (.tmp 83), none, false⟩])
 (.seq (.seq (.region false (⟨(some 84), .move (.tmp 6), none, false⟩ :: ⟨(some 85), .bin .neq 3 (.tmp 84) (.const (.int .i64 8)), none, false⟩ :: ⟨(some 86), .move (.tmp 85), none, false⟩ :: (ac6_G1 ++ (⟨(some 90), .move (.tmp 89), none, false⟩ :: (ac6_G2 ++ (⟨(some 94), .move (.tmp 93), none, false⟩ :: (ac6_G3 ++ (⟨(some 98), .move (.tmp 97), none, false⟩ :: (ac6_G4 ++ (⟨(some 102), .move (.tmp 101), none, false⟩ :: (ac6_G5 ++ (⟨(some 106), .move (.tmp 105), none, false⟩ :: (ac6_G6 ++ [])))))))))))))
 (.cond (.tmp 109)
 (.seq (.region false [⟨(some 0), .move (.const (.bool false)), none, false⟩])
 (.ret))
 (.skip)))
 (.seq (.region false (⟨(some 110), .move (.tmp 3), none, false⟩ :: ⟨(some 111), .load 10 true (.tmp 2), none, false⟩ :: ⟨(some 112), .load 4 true (.tmp 16), none, false⟩ :: ⟨(some 113), .call (.func 11) [(.tmp 110), (.tmp 111), (.tmp 112), (.const (.slice none 0 0))], none, false⟩ :: ⟨(some 114), .bin .eql 50 (.tmp 113) (.const (.int .u32 4)), none, false⟩ :: ⟨(some 115), .move (.tmp 114), none, false⟩ :: (ac6_G7 ++ (⟨(some 122), .move (.tmp 121), none, false⟩ :: (ac6_G8 ++ (⟨(some 129), .move (.tmp 128), none, false⟩ :: (ac6_G9 ++ (⟨(some 136), .move (.tmp 135), none, false⟩ :: (ac6_G10 ++ (⟨(some 143), .move (.tmp 142), none, false⟩ :: (ac6_G11 ++ (⟨(some 150), .move (.tmp 149), none, false⟩ :: (ac6_G12 ++ [⟨(some 0), .move (.tmp 155), none, false⟩])))))))))))))
 (.ret)))))))))))))))
theorem text6 : FnText Try.prog 6 [1, 2, 16, 17] 156 0 ac6 [(0, none)] :=
 ⟨Try.call6, follows, Try.f6, _, Try.func6, rfl, rfl, by decide, by kernel_rfl, by kernel_rfl⟩


/-- patchbay/patchbaylaw13.join -/
def ac10 : AC :=
 .seq (.region false [⟨(some 6), .move (.const (.slice none 0 0)), none, false⟩])
 (.seq (.region false [⟨(some 7), .move (.const (.slice none 0 0)), none, false⟩])
 (.seq (.region false [⟨(some 8), .move (.tmp 7), none, false⟩,
 ⟨(some 9), .move (.tmp 0), none, false⟩,
 ⟨(some 10), .append 32 53 3 24 (.tmp 8) (.tmp 9), none, false⟩,
 ⟨(some 7), .move (.tmp 10), none, false⟩])
 (.seq (.region false [⟨(some 11), .move (.tmp 7), none, false⟩,
 ⟨(some 12), .move (.tmp 1), none, false⟩,
 ⟨(some 13), .append 32 53 3 24 (.tmp 11) (.tmp 12), none, false⟩,
 ⟨(some 7), .move (.tmp 13), none, false⟩])
 (.seq (.region false [⟨(some 14), .move (.tmp 7), none, false⟩,
 ⟨(some 15), .move (.tmp 2), none, false⟩,
 ⟨(some 16), .append 32 53 3 24 (.tmp 14) (.tmp 15), none, false⟩,
 ⟨(some 7), .move (.tmp 16), none, false⟩])
 (.seq (.region false [⟨(some 17), .move (.tmp 7), none, false⟩,
 ⟨(some 6), .move (.tmp 17), none, false⟩])
 (.ret))))))
theorem text10 : FnText Try.prog 10 [] 18 3 ac10 [(6, none)] :=
 ⟨Try.call10, follows, Try.f10, _, Try.func10, rfl, rfl, by decide, by kernel_rfl, by kernel_rfl⟩

def ac79_G1 : List AOper :=
 [⟨(some 8), .move (.tmp 1), (some (7, true)), false⟩,
 ⟨(some 9), .move (.tmp 0), (some (7, true)), false⟩,
 ⟨(some 10), .bi .len [35].toArray 3 [(.tmp 9)], (some (7, true)), false⟩,
 ⟨(some 11), .bin .lss 3 (.tmp 8) (.tmp 10), (some (7, true)), false⟩,
 ⟨(some 12), .pick (.tmp 7) (.tmp 11) (.const (.bool false)), none, false⟩]
/-- patchbay/env.in[uint32] -/
def ac79 : AC :=
 .seq (.region false [⟨(some 4), .move (.const (.bool false)), none, false⟩])
 (.seq (.region false (⟨(some 5), .move (.tmp 1), none, false⟩ :: ⟨(some 6), .bin .geq 3 (.tmp 5) (.const (.int .i64 0)), none, false⟩ :: ⟨(some 7), .move (.tmp 6), none, false⟩ :: (ac79_G1 ++ [⟨(some 4), .move (.tmp 12), none, false⟩])))
 (.ret))
theorem text79 : FnText Try.prog 79 [] 13 2 ac79 [(4, none)] :=
 ⟨Try.call79, follows, Try.f79, _, Try.func79, rfl, rfl, by decide, by kernel_rfl, by kernel_rfl⟩

def ac80_G1 : List AOper :=
 [⟨(some 9), .move (.tmp 1), (some (8, false)), false⟩,
 ⟨(some 10), .move (.tmp 0), (some (8, false)), false⟩,
 ⟨(some 11), .bi .len [34].toArray 3 [(.tmp 10)], (some (8, false)), false⟩,
 ⟨(some 12), .bin .geq 3 (.tmp 9) (.tmp 11), (some (8, false)), false⟩,
 ⟨(some 13), .pick (.tmp 8) (.const (.bool true)) (.tmp 12), none, false⟩]
/-- patchbay/env.at[[]uint32] -/
def ac80 : AC :=
 .seq (.region false [⟨(some 4), .move (.const (.slice none 0 0)), none, false⟩])
 (.seq (.region false [⟨(some 5), .move (.const (.slice none 0 0)), none, false⟩])
 (.seq (.seq (.region false (⟨(some 6), .move (.tmp 1), none, false⟩ :: ⟨(some 7), .bin .lss 3 (.tmp 6) (.const (.int .i64 0)), none, false⟩ :: ⟨(some 8), .move (.tmp 7), none, false⟩ :: (ac80_G1 ++ [])))
 (.cond (.tmp 13)
 (.seq (.region false [⟨(some 14), .move (.tmp 5), none, false⟩,
 ⟨(some 4), .move (.tmp 14), none, false⟩])
 (.ret))
 (.skip)))
 (.seq (.region false [⟨(some 15), .move (.tmp 0), none, false⟩,
 ⟨(some 16), .move (.tmp 1), none, false⟩,
 ⟨(some 17), .iaddr 1 (.tmp 15) (.tmp 16), none, false⟩,
 ⟨(some 18), .load 1 false (.tmp 17), none, false⟩,
 ⟨(some 4), .move (.tmp 18), none, false⟩])
 (.ret))))
theorem text80 : FnText Try.prog 80 [] 19 2 ac80 [(4, none)] :=
 ⟨Try.call80, follows, Try.f80, _, Try.func80, rfl, rfl, by decide, by kernel_rfl, by kernel_rfl⟩

def ac81_G1 : List AOper :=
 [⟨(some 9), .move (.tmp 1), (some (8, false)), false⟩,
 ⟨(some 10), .move (.tmp 0), (some (8, false)), false⟩,
 ⟨(some 11), .bi .len [33].toArray 3 [(.tmp 10)], (some (8, false)), false⟩,
 ⟨(some 12), .bin .geq 3 (.tmp 9) (.tmp 11), (some (8, false)), false⟩,
 ⟨(some 13), .pick (.tmp 8) (.const (.bool true)) (.tmp 12), none, false⟩]
/-- patchbay/env.at[bool] -/
def ac81 : AC :=
 .seq (.region false [⟨(some 4), .move (.const (.bool false)), none, false⟩])
 (.seq (.region false [⟨(some 5), .move (.const (.bool false)), none, false⟩])
 (.seq (.seq (.region false (⟨(some 6), .move (.tmp 1), none, false⟩ :: ⟨(some 7), .bin .lss 3 (.tmp 6) (.const (.int .i64 0)), none, false⟩ :: ⟨(some 8), .move (.tmp 7), none, false⟩ :: (ac81_G1 ++ [])))
 (.cond (.tmp 13)
 (.seq (.region false [⟨(some 14), .move (.tmp 5), none, false⟩,
 ⟨(some 4), .move (.tmp 14), none, false⟩])
 (.ret))
 (.skip)))
 (.seq (.region false [⟨(some 15), .move (.tmp 0), none, false⟩,
 ⟨(some 16), .move (.tmp 1), none, false⟩,
 ⟨(some 17), .iaddr 1 (.tmp 15) (.tmp 16), none, false⟩,
 ⟨(some 18), .load 1 false (.tmp 17), none, false⟩,
 ⟨(some 4), .move (.tmp 18), none, false⟩])
 (.ret))))
theorem text81 : FnText Try.prog 81 [] 19 2 ac81 [(4, none)] :=
 ⟨Try.call81, follows, Try.f81, _, Try.func81, rfl, rfl, by decide, by kernel_rfl, by kernel_rfl⟩

def ac70_G1 : List AOper :=
 [⟨(some 31), .move (.tmp 6), (some (30, true)), false⟩,
 ⟨(some 32), .faddr 1 1 false (.tmp 3), (some (30, true)), false⟩,
 ⟨(some 33), .load 1 false (.tmp 32), (some (30, true)), false⟩,
 ⟨(some 34), .call (.func 79) [(.tmp 31), (.tmp 33)], (some (30, true)), false⟩,
 ⟨(some 35), .pick (.tmp 30) (.tmp 34) (.const (.bool false)), none, false⟩]
/-- patchbay/env.element -/
def ac70 : AC :=
 .seq (.region false [⟨(some 2), .box false 38 (.tmp 0), none, false⟩,
 ⟨(some 3), .box false 68 (.tmp 1), none, false⟩,
 ⟨(some 4), .move (.const (.slice none 0 0)), none, false⟩,
 ⟨(some 5), .move (.const (.bool false)), none, false⟩])
 (.seq (.seq (.region false [⟨(some 7), .load 2 true (.tmp 3), none, false⟩,
 ⟨(some 8), .faddr 1 1 false (.tmp 3), none, false⟩,
 ⟨(some 9), .load 1 false (.tmp 8), none, false⟩,
 ⟨(some 10), .build [(.int .i64 0), (.int .i64 0)] [(0, 1, (.const (.int .i64 (-1)))), (1, 1, (.tmp 9))], none, false⟩,
 ⟨(some 11), .bin .eql 68 (.tmp 7) (.tmp 10), none, false⟩])
 (.cond (.tmp 11)
 (.seq (.region true [⟨(some 12), .faddr 2 1 false (.tmp 2), none, false⟩,
 ⟨(some 13), .load 1 false (.tmp 12), none, false⟩,
 ⟨(some 14), .faddr 2 1 false (.tmp 2), none, false⟩,
 ⟨(some 15), .load 1 false (.tmp 14), none, false⟩,
 ⟨(some 16), .faddr 1 1 false (.tmp 3), none, false⟩,
 ⟨(some 17), .load 1 false (.tmp 16), none, false⟩,
 ⟨(some 18), .call (.func 79) [(.tmp 15), (.tmp 17)], none, false⟩,
 ⟨(some 4), .move (.tmp 13), none, false⟩,
 ⟨(some 5), .move (.tmp 18), none, false⟩])
 (.ret))
 (.skip)))
 (.seq (.region false [⟨(some 19), .faddr 1 1 false (.tmp 2), none, false⟩,
 ⟨(some 20), .load 1 false (.tmp 19), none, false⟩,
 ⟨(some 21), .faddr 0 1 false (.tmp 3), none, false⟩,
 ⟨(some 22), .load 1 false (.tmp 21), none, false⟩,
 ⟨(some 23), .call (.func 80) [(.tmp 20), (.tmp 22)], none, false⟩,
 ⟨(some 6), .move (.tmp 23), none, false⟩])
 (.seq (.region false (⟨(some 24), .move (.tmp 6), none, false⟩ :: ⟨(some 25), .faddr 0 1 false (.tmp 2), none, false⟩ :: ⟨(some 26), .load 1 false (.tmp 25), none, false⟩ :: ⟨(some 27), .faddr 0 1 false (.tmp 3), none, false⟩ :: ⟨(some 28), .load 1 false (.tmp 27), none, false⟩ :: ⟨(some 29), .call (.func 81) [(.tmp 26), (.tmp 28)], none, false⟩ :: ⟨(some 30), .move (.tmp 29), none, false⟩ :: (ac70_G1 ++ [⟨(some 4), .move (.tmp 24), none, false⟩,
 ⟨(some 5), .move (.tmp 35), none, false⟩])))
 (.ret))))
theorem text70 : FnText Try.prog 70 [] 36 2 ac70 [(4, none), (5, none)] :=
 ⟨Try.call70, follows, Try.f70, _, Try.func70, rfl, rfl, by decide, by kernel_rfl, by kernel_rfl⟩


/-- patchbay/env.Get -/
def ac42 : AC :=
 .seq (.region false [⟨(some 2), .box false 38 (.tmp 0), none, false⟩,
 ⟨(some 3), .box false 68 (.tmp 1), none, false⟩,
 ⟨(some 4), .move (.const (.int .u32 0)), none, false⟩])
 (.seq (.region false [⟨(some 8), .load 4 true (.tmp 2), none, false⟩,
 ⟨(some 9), .load 2 true (.tmp 3), none, false⟩,
 ⟨(some 10), .call (.func 70) [(.tmp 8), (.tmp 9)], none, false⟩,
 ⟨(some 7), .move (.tmp 10), none, false⟩,
 ⟨(some 11), .extract (.tmp 7) 0, none, false⟩,
 ⟨(some 12), .extract (.tmp 7) 1, none, false⟩,
 ⟨(some 5), .move (.tmp 11), none, false⟩,
 ⟨(some 6), .move (.tmp 12), none, false⟩])
 (.seq (.seq (.region false [⟨(some 13), .move (.tmp 6), none, false⟩,
 ⟨(some 14), .un .not (.tmp 13), none, false⟩])
 (.cond (.tmp 14)
 (.seq (.region false [⟨(some 4), .move (.const (.int .u32 0)), none, false⟩])
 (.ret))
 (.skip)))
 (.seq (.region false [⟨(some 15), .move (.tmp 5), none, false⟩,
 ⟨(some 16), .faddr 1 1 false (.tmp 3), none, false⟩,
 ⟨(some 17), .load 1 false (.tmp 16), none, false⟩,
 ⟨(some 18), .iaddr 1 (.tmp 15) (.tmp 17), none, false⟩,
 ⟨(some 19), .load 1 false (.tmp 18), none, false⟩,
 ⟨(some 4), .move (.tmp 19), none, false⟩])
 (.ret))))
theorem text42 : FnText Try.prog 42 [] 20 2 ac42 [(4, none)] :=
 ⟨Try.call42, follows, Try.f42, _, Try.func42, rfl, rfl, by decide, by kernel_rfl, by kernel_rfl⟩

def ac33_G1 : List AOper :=
 [⟨(some 66), .move (.tmp 0), (some (65, true)), false⟩,
 ⟨(some 67), .nilCheck (.tmp 66), (some (65, true)), false⟩,
 ⟨(some 68), .faddr 10 4 true (.tmp 67), (some (65, true)), false⟩,
 ⟨(some 69), .faddr 0 1 false (.tmp 68), (some (65, true)), false⟩,
 ⟨(some 70), .load 1 false (.tmp 69), (some (65, true)), false⟩,
 ⟨(some 71), .faddr 1 1 false (.tmp 3), (some (65, true)), false⟩,
 ⟨(some 72), .load 1 false (.tmp 71), (some (65, true)), false⟩,
 ⟨(some 73), .iaddr 1 (.tmp 70) (.tmp 72), (some (65, true)), false⟩,
 ⟨(some 74), .load 1 false (.tmp 73), (some (65, true)), false⟩,
 ⟨(some 75), .pick (.tmp 65) (.tmp 74) (.const (.bool false)), none, false⟩]
/-- (*patchbay/expr.machine).load -/
def ac33 : AC :=
 .seq (.region false [⟨(some 3), .box false 53 (.tmp 1), none, false⟩,
 ⟨(some 4), .alloc true 77 (.agg [(.int .u32 0), (.int .i64 0)].toArray), none, false⟩])
 (.seq (.region true [⟨(some 9), .move (.tmp 0), none, false⟩,
 ⟨(some 10), .nilCheck (.tmp 9), none, false⟩,
 ⟨(some 11), .faddr 0 10 true (.tmp 10), none, false⟩,
 ⟨(some 12), .load 10 true (.tmp 11), none, false⟩,
 ⟨(some 13), .load 3 true (.tmp 3), none, false⟩,
 ⟨(some 14), .call (.func 31) [(.tmp 12), (.tmp 13)], none, false⟩,
 ⟨(some 8), .move (.tmp 14), none, false⟩,
 ⟨(some 15), .extract (.tmp 8) 0, none, false⟩,
 ⟨(some 16), .extract (.tmp 8) 1, none, false⟩,
 ⟨(some 5), .move (.tmp 15), none, false⟩,
 ⟨(some 6), .move (.tmp 16), none, false⟩])
 (.seq (.region false [⟨(some 7), .move (.const (.int .u32 0)), none, false⟩])
 (.seq (.seq (.region false [⟨(some 17), .faddr 0 1 false (.tmp 3), none, false⟩,
 ⟨(some 18), .load 1 false (.tmp 17), none, false⟩])
 (.block 0 (.seq (.region false [⟨(some 20), .bin .eql 3 (.tmp 18) (.const (.int .i64 1)), none, false⟩,
 ⟨(some 19), .move (.tmp 20), none, false⟩])
 (.cond (.tmp 19)
 (.region false [⟨(some 21), .faddr 1 1 false (.tmp 3), none, false⟩,
 ⟨(some 22), .load 1 false (.tmp 21), none, false⟩,
 ⟨(some 23), .conv 3 50 (.tmp 22), none, false⟩,
 ⟨(some 7), .move (.tmp 23), none, false⟩])
 (.seq (.region false [⟨(some 25), .bin .eql 3 (.tmp 18) (.const (.int .i64 2)), none, false⟩,
 ⟨(some 24), .move (.tmp 25), none, false⟩])
 (.cond (.tmp 24)
 (.region true [⟨(some 26), .move (.tmp 0), none, false⟩,
 ⟨(some 27), .nilCheck (.tmp 26), none, false⟩,
 ⟨(some 28), .faddr 10 4 true (.tmp 27), none, false⟩,
 ⟨(some 29), .load 4 true (.tmp 28), none, false⟩,
 ⟨(some 30), .faddr 1 1 false (.tmp 3), none, false⟩,
 ⟨(some 31), .load 1 false (.tmp 30), none, false⟩,
 ⟨(some 32), .faddr 2 1 false (.tmp 3), none, false⟩,
 ⟨(some 33), .load 1 false (.tmp 32), none, false⟩,
 ⟨(some 34), .build [(.int .i64 0), (.int .i64 0)] [(0, 1, (.tmp 31)), (1, 1, (.tmp 33))], none, false⟩,
 ⟨(some 35), .call (.func 42) [(.tmp 29), (.tmp 34)], none, false⟩,
 ⟨(some 7), .move (.tmp 35), none, false⟩])
 (.seq (.region false [⟨(some 37), .bin .eql 3 (.tmp 18) (.const (.int .i64 3)), none, false⟩,
 ⟨(some 36), .move (.tmp 37), none, false⟩])
 (.cond (.tmp 36)
 (.seq (.region true [⟨(some 38), .faddr 1 1 false (.tmp 3), none, false⟩,
 ⟨(some 39), .load 1 false (.tmp 38), none, false⟩,
 ⟨(some 40), .move (.tmp 0), none, false⟩,
 ⟨(some 41), .nilCheck (.tmp 40), none, false⟩,
 ⟨(some 42), .faddr 14 1 false (.tmp 41), none, false⟩,
 ⟨(some 43), .load 1 false (.tmp 42), none, false⟩,
 ⟨(some 44), .bi .len [35].toArray 3 [(.tmp 43)], none, false⟩,
 ⟨(some 45), .bin .lss 3 (.tmp 39) (.tmp 44), none, false⟩])
 (.cond (.tmp 45)
 (.region true [⟨(some 46), .move (.tmp 0), none, false⟩,
 ⟨(some 47), .nilCheck (.tmp 46), none, false⟩,
 ⟨(some 48), .faddr 14 1 false (.tmp 47), none, false⟩,
 ⟨(some 49), .load 1 false (.tmp 48), none, false⟩,
 ⟨(some 50), .faddr 1 1 false (.tmp 3), none, false⟩,
 ⟨(some 51), .load 1 false (.tmp 50), none, false⟩,
 ⟨(some 52), .iaddr 1 (.tmp 49) (.tmp 51), none, false⟩,
 ⟨(some 53), .load 1 false (.tmp 52), none, false⟩,
 ⟨(some 7), .move (.tmp 53), none, false⟩])
 (.skip)))
 (.seq (.region false [⟨(some 55), .bin .eql 3 (.tmp 18) (.const (.int .i64 4)), none, false⟩,
 ⟨(some 54), .move (.tmp 55), none, false⟩])
 (.cond (.tmp 54)
 (.seq (.region true (⟨(some 56), .faddr 1 1 false (.tmp 3), none, false⟩ :: ⟨(some 57), .load 1 false (.tmp 56), none, false⟩ :: ⟨(some 58), .move (.tmp 0), none, false⟩ :: ⟨(some 59), .nilCheck (.tmp 58), none, false⟩ :: ⟨(some 60), .faddr 10 4 true (.tmp 59), none, false⟩ :: ⟨(some 61), .faddr 0 1 false (.tmp 60), none, false⟩ :: ⟨(some 62), .load 1 false (.tmp 61), none, false⟩ :: ⟨(some 63), .bi .len [33].toArray 3 [(.tmp 62)], none, false⟩ :: ⟨(some 64), .bin .lss 3 (.tmp 57) (.tmp 63), none, false⟩ :: ⟨(some 65), .move (.tmp 64), none, false⟩ :: (ac33_G1 ++ [])))
 (.cond (.tmp 75)
 (.region false [⟨(some 7), .move (.const (.int .u32 1)), none, false⟩])
 (.skip)))
 (.skip)))))))))))
 (.seq (.region false [⟨(some 76), .move (.tmp 7), none, false⟩,
 ⟨(some 77), .move (.tmp 5), none, false⟩,
 ⟨(some 78), .call (.func 23) [(.tmp 77)], none, false⟩,
 ⟨(some 79), .bin .and 50 (.tmp 76) (.tmp 78), none, false⟩,
 ⟨(some 80), .move (.tmp 5), none, false⟩,
 ⟨(some 81), .build [(.int .u32 0), (.int .i64 0)] [(0, 1, (.tmp 79)), (1, 1, (.tmp 80))], none, false⟩,
 ⟨none, .store 2 (.tmp 4) (.tmp 81), none, false⟩])
 (.ret)))))
theorem text33 : FnText Try.prog 33 [4] 82 2 ac33 [(4, some (2, true))] :=
 ⟨Try.call33, follows, Try.f33, _, Try.func33, rfl, rfl, by decide, by kernel_rfl, by kernel_rfl⟩


/-- patchbay/bitvec.Not -/
def ac43 : AC :=
 .seq (.region false [⟨(some 4), .move (.const (.int .u32 0)), none, false⟩])
 (.seq (.region false [⟨(some 5), .move (.tmp 0), none, false⟩,
 ⟨(some 6), .un .xor (.tmp 5), none, false⟩,
 ⟨(some 7), .move (.tmp 1), none, false⟩,
 ⟨(some 8), .call (.func 23) [(.tmp 7)], none, false⟩,
 ⟨(some 9), .bin .and 50 (.tmp 6) (.tmp 8), none, false⟩,
 ⟨(some 4), .move (.tmp 9), none, false⟩])
 (.ret))
theorem text43 : FnText Try.prog 43 [] 10 2 ac43 [(4, none)] :=
 ⟨Try.call43, follows, Try.f43, _, Try.func43, rfl, rfl, by decide, by kernel_rfl, by kernel_rfl⟩


/-- patchbay/bitvec.Shl -/
def ac44 : AC :=
 .seq (.region false [⟨(some 6), .move (.const (.int .u32 0)), none, false⟩])
 (.seq (.region true [⟨(some 7), .move (.tmp 0), none, false⟩,
 ⟨(some 8), .move (.tmp 1), none, false⟩,
 ⟨(some 9), .bi .max [3, 3].toArray 3 [(.tmp 8), (.const (.int .i64 0))], none, false⟩,
 ⟨(some 10), .bin .shl 50 (.tmp 7) (.tmp 9), none, false⟩,
 ⟨(some 11), .move (.tmp 2), none, false⟩,
 ⟨(some 12), .call (.func 23) [(.tmp 11)], none, false⟩,
 ⟨(some 13), .bin .and 50 (.tmp 10) (.tmp 12), none, false⟩,
 ⟨(some 6), .move (.tmp 13), none, false⟩])
 (.ret))
theorem text44 : FnText Try.prog 44 [] 14 3 ac44 [(6, none)] :=
 ⟨Try.call44, follows, Try.f44, _, Try.func44, rfl, rfl, by decide, by kernel_rfl, by kernel_rfl⟩


/-- patchbay/bitvec.Shr -/
def ac45 : AC :=
 .seq (.region false [⟨(some 6), .move (.const (.int .u32 0)), none, false⟩])
 (.seq (.region false [⟨(some 7), .move (.tmp 0), none, false⟩,
 ⟨(some 8), .move (.tmp 2), none, false⟩,
 ⟨(some 9), .call (.func 23) [(.tmp 8)], none, false⟩,
 ⟨(some 10), .bin .and 50 (.tmp 7) (.tmp 9), none, false⟩,
 ⟨(some 11), .move (.tmp 1), none, false⟩,
 ⟨(some 12), .bi .max [3, 3].toArray 3 [(.tmp 11), (.const (.int .i64 0))], none, false⟩,
 ⟨(some 13), .bin .shr 50 (.tmp 10) (.tmp 12), none, false⟩,
 ⟨(some 6), .move (.tmp 13), none, false⟩])
 (.ret))
theorem text45 : FnText Try.prog 45 [] 14 3 ac45 [(6, none)] :=
 ⟨Try.call45, follows, Try.f45, _, Try.func45, rfl, rfl, by decide, by kernel_rfl, by kernel_rfl⟩

def ac46_G1 : List AOper :=
 [⟨(some 12), .move (.tmp 1), (some (11, false)), false⟩,
 ⟨(some 13), .bin .lss 3 (.tmp 12) (.const (.int .i64 0)), (some (11, false)), false⟩,
 ⟨(some 14), .pick (.tmp 11) (.const (.bool true)) (.tmp 13), none, false⟩]
def ac46_G2 : List AOper :=
 [⟨(some 16), .move (.tmp 1), (some (15, false)), false⟩,
 ⟨(some 17), .move (.tmp 2), (some (15, false)), false⟩,
 ⟨(some 18), .bin .sub 3 (.const (.int .i64 32)) (.tmp 17), (some (15, false)), false⟩,
 ⟨(some 19), .bin .gtr 3 (.tmp 16) (.tmp 18), (some (15, false)), false⟩,
 ⟨(some 20), .pick (.tmp 15) (.const (.bool true)) (.tmp 19), none, false⟩]
/-- patchbay/bitvec.Slice -/
def ac46 : AC :=
 .seq (.region false [⟨(some 6), .move (.const (.int .u32 0)), none, false⟩])
 (.seq (.seq (.region false (⟨(some 7), .move (.tmp 2), none, false⟩ :: ⟨(some 8), .bslice false 3 1 false [(.tmp 7)], none, false⟩ :: ⟨(some 9), .call (.func 22) [(.tmp 8)], none, false⟩ :: ⟨(some 10), .un .not (.tmp 9), none, false⟩ :: ⟨(some 11), .move (.tmp 10), none, false⟩ :: (ac46_G1 ++ (⟨(some 15), .move (.tmp 14), none, false⟩ :: (ac46_G2 ++ [])))))
 (.cond (.tmp 20)
 (.seq (.region false [⟨(some 6), .move (.const (.int .u32 0)), none, false⟩])
 (.ret))
 (.skip)))
 (.seq (.region true [⟨(some 21), .move (.tmp 0), none, false⟩,
 ⟨(some 22), .move (.tmp 1), none, false⟩,
 ⟨(some 23), .bin .shr 50 (.tmp 21) (.tmp 22), none, false⟩,
 ⟨(some 24), .move (.tmp 2), none, false⟩,
 ⟨(some 25), .call (.func 23) [(.tmp 24)], none, false⟩,
 ⟨(some 26), .bin .and 50 (.tmp 23) (.tmp 25), none, false⟩,
 ⟨(some 6), .move (.tmp 26), none, false⟩])
 (.ret)))
theorem text46 : FnText Try.prog 46 [] 27 3 ac46 [(6, none)] :=
 ⟨Try.call46, follows, Try.f46, _, Try.func46, rfl, rfl, by decide, by kernel_rfl, by kernel_rfl⟩


/-- patchbay/expr.unary -/
def ac34 : AC :=
 .seq (.region false [⟨(some 2), .box false 53 (.tmp 0), none, false⟩,
 ⟨(some 3), .box false 77 (.tmp 1), none, false⟩,
 ⟨(some 4), .alloc true 77 (.agg [(.int .u32 0), (.int .i64 0)].toArray), none, false⟩])
 (.seq (.seq (.region false [⟨(some 5), .faddr 0 1 false (.tmp 2), none, false⟩,
 ⟨(some 6), .load 1 false (.tmp 5), none, false⟩])
 (.block 0 (.seq (.region false [⟨(some 8), .bin .eql 3 (.tmp 6) (.const (.int .i64 5)), none, false⟩,
 ⟨(some 7), .move (.tmp 8), none, false⟩])
 (.cond (.tmp 7)
 (.seq (.region true [⟨(some 9), .faddr 0 1 false (.tmp 3), none, false⟩,
 ⟨(some 10), .load 1 false (.tmp 9), none, false⟩,
 ⟨(some 11), .faddr 1 1 false (.tmp 3), none, false⟩,
 ⟨(some 12), .load 1 false (.tmp 11), none, false⟩,
 ⟨(some 13), .call (.func 43) [(.tmp 10), (.tmp 12)], none, false⟩,
 ⟨(some 14), .faddr 1 1 false (.tmp 3), none, false⟩,
 ⟨(some 15), .load 1 false (.tmp 14), none, false⟩,
 ⟨(some 16), .build [(.int .u32 0), (.int .i64 0)] [(0, 1, (.tmp 13)), (1, 1, (.tmp 15))], none, false⟩,
 ⟨none, .store 2 (.tmp 4) (.tmp 16), none, false⟩])
 (.ret))
 (.seq (.region false [⟨(some 18), .bin .eql 3 (.tmp 6) (.const (.int .i64 6)), none, false⟩,
 ⟨(some 17), .move (.tmp 18), none, false⟩])
 (.cond (.tmp 17)
 (.seq (.region true [⟨(some 19), .faddr 0 1 false (.tmp 3), none, false⟩,
 ⟨(some 20), .load 1 false (.tmp 19), none, false⟩,
 ⟨(some 21), .faddr 1 1 false (.tmp 2), none, false⟩,
 ⟨(some 22), .load 1 false (.tmp 21), none, false⟩,
 ⟨(some 23), .faddr 1 1 false (.tmp 3), none, false⟩,
 ⟨(some 24), .load 1 false (.tmp 23), none, false⟩,
 ⟨(some 25), .call (.func 44) [(.tmp 20), (.tmp 22), (.tmp 24)], none, false⟩,
 ⟨(some 26), .faddr 1 1 false (.tmp 3), none, false⟩,
 ⟨(some 27), .load 1 false (.tmp 26), none, false⟩,
 ⟨(some 28), .build [(.int .u32 0), (.int .i64 0)] [(0, 1, (.tmp 25)), (1, 1, (.tmp 27))], none, false⟩,
 ⟨none, .store 2 (.tmp 4) (.tmp 28), none, false⟩])
 (.ret))
 (.seq (.region false [⟨(some 30), .bin .eql 3 (.tmp 6) (.const (.int .i64 7)), none, false⟩,
 ⟨(some 29), .move (.tmp 30), none, false⟩])
 (.cond (.tmp 29)
 (.seq (.region true [⟨(some 31), .faddr 0 1 false (.tmp 3), none, false⟩,
 ⟨(some 32), .load 1 false (.tmp 31), none, false⟩,
 ⟨(some 33), .faddr 1 1 false (.tmp 2), none, false⟩,
 ⟨(some 34), .load 1 false (.tmp 33), none, false⟩,
 ⟨(some 35), .faddr 1 1 false (.tmp 3), none, false⟩,
 ⟨(some 36), .load 1 false (.tmp 35), none, false⟩,
 ⟨(some 37), .call (.func 45) [(.tmp 32), (.tmp 34), (.tmp 36)], none, false⟩,
 ⟨(some 38), .faddr 1 1 false (.tmp 3), none, false⟩,
 ⟨(some 39), .load 1 false (.tmp 38), none, false⟩,
 ⟨(some 40), .build [(.int .u32 0), (.int .i64 0)] [(0, 1, (.tmp 37)), (1, 1, (.tmp 39))], none, false⟩,
 ⟨none, .store 2 (.tmp 4) (.tmp 40), none, false⟩])
 (.ret))
 (.skip)))))))))
 (.seq (.region true [⟨(some 41), .faddr 0 1 false (.tmp 3), none, false⟩,
 ⟨(some 42), .load 1 false (.tmp 41), none, false⟩,
 ⟨(some 43), .faddr 1 1 false (.tmp 2), none, false⟩,
 ⟨(some 44), .load 1 false (.tmp 43), none, false⟩,
 ⟨(some 45), .faddr 2 1 false (.tmp 2), none, false⟩,
 ⟨(some 46), .load 1 false (.tmp 45), none, false⟩,
 ⟨(some 47), .call (.func 46) [(.tmp 42), (.tmp 44), (.tmp 46)], none, false⟩,
 ⟨(some 48), .faddr 2 1 false (.tmp 2), none, false⟩,
 ⟨(some 49), .load 1 false (.tmp 48), none, false⟩,
 ⟨(some 50), .build [(.int .u32 0), (.int .i64 0)] [(0, 1, (.tmp 47)), (1, 1, (.tmp 49))], none, false⟩,
 ⟨none, .store 2 (.tmp 4) (.tmp 50), none, false⟩])
 (.ret)))
theorem text34 : FnText Try.prog 34 [4] 51 2 ac34 [(4, some (2, true))] :=
 ⟨Try.call34, follows, Try.f34, _, Try.func34, rfl, rfl, by decide, by kernel_rfl, by kernel_rfl⟩


/-- patchbay/bitvec.Add -/
def ac47 : AC :=
 .seq (.region false [⟨(some 6), .move (.const (.int .u32 0)), none, false⟩])
 (.seq (.region false [⟨(some 7), .move (.tmp 0), none, false⟩,
 ⟨(some 8), .move (.tmp 1), none, false⟩,
 ⟨(some 9), .bin .add 50 (.tmp 7) (.tmp 8), none, false⟩,
 ⟨(some 10), .move (.tmp 2), none, false⟩,
 ⟨(some 11), .call (.func 23) [(.tmp 10)], none, false⟩,
 ⟨(some 12), .bin .and 50 (.tmp 9) (.tmp 11), none, false⟩,
 ⟨(some 6), .move (.tmp 12), none, false⟩])
 (.ret))
theorem text47 : FnText Try.prog 47 [] 13 3 ac47 [(6, none)] :=
 ⟨Try.call47, follows, Try.f47, _, Try.func47, rfl, rfl, by decide, by kernel_rfl, by kernel_rfl⟩


/-- patchbay/bitvec.Sub -/
def ac48 : AC :=
 .seq (.region false [⟨(some 6), .move (.const (.int .u32 0)), none, false⟩])
 (.seq (.region false [⟨(some 7), .move (.tmp 0), none, false⟩,
 ⟨(some 8), .move (.tmp 1), none, false⟩,
 ⟨(some 9), .bin .sub 50 (.tmp 7) (.tmp 8), none, false⟩,
 ⟨(some 10), .move (.tmp 2), none, false⟩,
 ⟨(some 11), .call (.func 23) [(.tmp 10)], none, false⟩,
 ⟨(some 12), .bin .and 50 (.tmp 9) (.tmp 11), none, false⟩,
 ⟨(some 6), .move (.tmp 12), none, false⟩])
 (.ret))
theorem text48 : FnText Try.prog 48 [] 13 3 ac48 [(6, none)] :=
 ⟨Try.call48, follows, Try.f48, _, Try.func48, rfl, rfl, by decide, by kernel_rfl, by kernel_rfl⟩

def ac49_G1 : List AOper :=
 [⟨(some 16), .move (.tmp 1), (some (15, false)), false⟩,
 ⟨(some 17), .move (.tmp 3), (some (15, false)), false⟩,
 ⟨(some 18), .bin .add 3 (.tmp 16) (.tmp 17), (some (15, false)), false⟩,
 ⟨(some 19), .bin .gtr 3 (.tmp 18) (.const (.int .i64 32)), (some (15, false)), false⟩,
 ⟨(some 20), .pick (.tmp 15) (.const (.bool true)) (.tmp 19), none, false⟩]
/-- patchbay/bitvec.Concat -/
def ac49 : AC :=
 .seq (.region false [⟨(some 8), .move (.const (.int .u32 0)), none, false⟩,
 ⟨(some 9), .move (.const (.bool false)), none, false⟩])
 (.seq (.seq (.region false (⟨(some 10), .move (.tmp 1), none, false⟩ :: ⟨(some 11), .move (.tmp 3), none, false⟩ :: ⟨(some 12), .bslice false 3 1 false [(.tmp 10), (.tmp 11)], none, false⟩ :: ⟨(some 13), .call (.func 22) [(.tmp 12)], none, false⟩ :: ⟨(some 14), .un .not (.tmp 13), none, false⟩ :: ⟨(some 15), .move (.tmp 14), none, false⟩ :: (ac49_G1 ++ [])))
 (.cond (.tmp 20)
 (.seq (.region false [⟨(some 8), .move (.const (.int .u32 0)), none, false⟩,
 ⟨(some 9), .move (.const (.bool false)), none, false⟩])
 (.ret))
 (.skip)))
 (.seq (.region true [⟨(some 21), .move (.tmp 0), none, false⟩,
 ⟨(some 22), .move (.tmp 1), none, false⟩,
 ⟨(some 23), .call (.func 23) [(.tmp 22)], none, false⟩,
 ⟨(some 24), .bin .and 50 (.tmp 21) (.tmp 23), none, false⟩,
 ⟨(some 25), .move (.tmp 3), none, false⟩,
 ⟨(some 26), .bin .shl 50 (.tmp 24) (.tmp 25), none, false⟩,
 ⟨(some 27), .move (.tmp 2), none, false⟩,
 ⟨(some 28), .move (.tmp 3), none, false⟩,
 ⟨(some 29), .call (.func 23) [(.tmp 28)], none, false⟩,
 ⟨(some 30), .bin .and 50 (.tmp 27) (.tmp 29), none, false⟩,
 ⟨(some 31), .bin .or 50 (.tmp 26) (.tmp 30), none, false⟩,
 ⟨(some 8), .move (.tmp 31), none, false⟩,
 ⟨(some 9), .move (.const (.bool true)), none, false⟩])
 (.ret)))
theorem text49 : FnText Try.prog 49 [] 32 4 ac49 [(8, none), (9, none)] :=
 ⟨Try.call49, follows, Try.f49, _, Try.func49, rfl, rfl, by decide, by kernel_rfl, by kernel_rfl⟩


/-- patchbay/expr.truth -/
def ac50 : AC :=
 .seq (.region false [⟨(some 2), .alloc true 77 (.agg [(.int .u32 0), (.int .i64 0)].toArray), none, false⟩])
 (.seq (.seq (.region false [⟨(some 3), .move (.tmp 0), none, false⟩])
 (.cond (.tmp 3)
 (.seq (.region false [⟨(some 4), .build [(.int .u32 0), (.int .i64 0)] [(0, 1, (.const (.int .u32 1))), (1, 1, (.const (.int .i64 1)))], none, false⟩,
 ⟨none, .store 2 (.tmp 2) (.tmp 4), none, false⟩])
 (.ret))
 (.skip)))
 (.seq (.region false [⟨(some 5), .build [(.int .u32 0), (.int .i64 0)] [(0, 1, (.const (.int .u32 0))), (1, 1, (.const (.int .i64 1)))], none, false⟩,
 ⟨none, .store 2 (.tmp 2) (.tmp 5), none, false⟩])
 (.ret)))
theorem text50 : FnText Try.prog 50 [2] 6 1 ac50 [(2, some (2, true))] :=
 ⟨Try.call50, follows, Try.f50, _, Try.func50, rfl, rfl, by decide, by kernel_rfl, by kernel_rfl⟩


/-- patchbay/expr.binary -/
def ac35 : AC :=
 .seq (.region false [⟨(some 4), .box false 77 (.tmp 1), none, false⟩,
 ⟨(some 5), .box false 77 (.tmp 2), none, false⟩,
 ⟨(some 6), .alloc true 77 (.agg [(.int .u32 0), (.int .i64 0)].toArray), none, false⟩])
 (.seq (.seq (.region false [⟨(some 9), .move (.tmp 0), none, false⟩])
 (.block 0 (.seq (.region false [⟨(some 11), .bin .eql 3 (.tmp 9) (.const (.int .i64 9)), none, false⟩,
 ⟨(some 10), .move (.tmp 11), none, false⟩])
 (.cond (.tmp 10)
 (.seq (.region true [⟨(some 12), .faddr 0 1 false (.tmp 4), none, false⟩,
 ⟨(some 13), .load 1 false (.tmp 12), none, false⟩,
 ⟨(some 14), .faddr 0 1 false (.tmp 5), none, false⟩,
 ⟨(some 15), .load 1 false (.tmp 14), none, false⟩,
 ⟨(some 16), .faddr 1 1 false (.tmp 4), none, false⟩,
 ⟨(some 17), .load 1 false (.tmp 16), none, false⟩,
 ⟨(some 18), .call (.func 47) [(.tmp 13), (.tmp 15), (.tmp 17)], none, false⟩,
 ⟨(some 19), .faddr 1 1 false (.tmp 4), none, false⟩,
 ⟨(some 20), .load 1 false (.tmp 19), none, false⟩,
 ⟨(some 21), .build [(.int .u32 0), (.int .i64 0)] [(0, 1, (.tmp 18)), (1, 1, (.tmp 20))], none, false⟩,
 ⟨none, .store 2 (.tmp 6) (.tmp 21), none, false⟩])
 (.ret))
 (.seq (.region false [⟨(some 23), .bin .eql 3 (.tmp 9) (.const (.int .i64 10)), none, false⟩,
 ⟨(some 22), .move (.tmp 23), none, false⟩])
 (.cond (.tmp 22)
 (.seq (.region true [⟨(some 24), .faddr 0 1 false (.tmp 4), none, false⟩,
 ⟨(some 25), .load 1 false (.tmp 24), none, false⟩,
 ⟨(some 26), .faddr 0 1 false (.tmp 5), none, false⟩,
 ⟨(some 27), .load 1 false (.tmp 26), none, false⟩,
 ⟨(some 28), .faddr 1 1 false (.tmp 4), none, false⟩,
 ⟨(some 29), .load 1 false (.tmp 28), none, false⟩,
 ⟨(some 30), .call (.func 48) [(.tmp 25), (.tmp 27), (.tmp 29)], none, false⟩,
 ⟨(some 31), .faddr 1 1 false (.tmp 4), none, false⟩,
 ⟨(some 32), .load 1 false (.tmp 31), none, false⟩,
 ⟨(some 33), .build [(.int .u32 0), (.int .i64 0)] [(0, 1, (.tmp 30)), (1, 1, (.tmp 32))], none, false⟩,
 ⟨none, .store 2 (.tmp 6) (.tmp 33), none, false⟩])
 (.ret))
 (.seq (.region false [⟨(some 35), .bin .eql 3 (.tmp 9) (.const (.int .i64 11)), none, false⟩,
 ⟨(some 34), .move (.tmp 35), none, false⟩])
 (.cond (.tmp 34)
 (.seq (.region false [⟨(some 36), .faddr 0 1 false (.tmp 4), none, false⟩,
 ⟨(some 37), .load 1 false (.tmp 36), none, false⟩,
 ⟨(some 38), .faddr 0 1 false (.tmp 5), none, false⟩,
 ⟨(some 39), .load 1 false (.tmp 38), none, false⟩,
 ⟨(some 40), .bin .and 50 (.tmp 37) (.tmp 39), none, false⟩,
 ⟨(some 41), .faddr 1 1 false (.tmp 4), none, false⟩,
 ⟨(some 42), .load 1 false (.tmp 41), none, false⟩,
 ⟨(some 43), .build [(.int .u32 0), (.int .i64 0)] [(0, 1, (.tmp 40)), (1, 1, (.tmp 42))], none, false⟩,
 ⟨none, .store 2 (.tmp 6) (.tmp 43), none, false⟩])
 (.ret))
 (.seq (.region false [⟨(some 45), .bin .eql 3 (.tmp 9) (.const (.int .i64 12)), none, false⟩,
 ⟨(some 44), .move (.tmp 45), none, false⟩])
 (.cond (.tmp 44)
 (.seq (.region false [⟨(some 46), .faddr 0 1 false (.tmp 4), none, false⟩,
 ⟨(some 47), .load 1 false (.tmp 46), none, false⟩,
 ⟨(some 48), .faddr 0 1 false (.tmp 5), none, false⟩,
 ⟨(some 49), .load 1 false (.tmp 48), none, false⟩,
 ⟨(some 50), .bin .or 50 (.tmp 47) (.tmp 49), none, false⟩,
 ⟨(some 51), .faddr 1 1 false (.tmp 4), none, false⟩,
 ⟨(some 52), .load 1 false (.tmp 51), none, false⟩,
 ⟨(some 53), .build [(.int .u32 0), (.int .i64 0)] [(0, 1, (.tmp 50)), (1, 1, (.tmp 52))], none, false⟩,
 ⟨none, .store 2 (.tmp 6) (.tmp 53), none, false⟩])
 (.ret))
 (.seq (.region false [⟨(some 55), .bin .eql 3 (.tmp 9) (.const (.int .i64 13)), none, false⟩,
 ⟨(some 54), .move (.tmp 55), none, false⟩])
 (.cond (.tmp 54)
 (.seq (.region false [⟨(some 56), .faddr 0 1 false (.tmp 4), none, false⟩,
 ⟨(some 57), .load 1 false (.tmp 56), none, false⟩,
 ⟨(some 58), .faddr 0 1 false (.tmp 5), none, false⟩,
 ⟨(some 59), .load 1 false (.tmp 58), none, false⟩,
 ⟨(some 60), .bin .xor 50 (.tmp 57) (.tmp 59), none, false⟩,
 ⟨(some 61), .faddr 1 1 false (.tmp 4), none, false⟩,
 ⟨(some 62), .load 1 false (.tmp 61), none, false⟩,
 ⟨(some 63), .build [(.int .u32 0), (.int .i64 0)] [(0, 1, (.tmp 60)), (1, 1, (.tmp 62))], none, false⟩,
 ⟨none, .store 2 (.tmp 6) (.tmp 63), none, false⟩])
 (.ret))
 (.seq (.region false [⟨(some 65), .bin .eql 3 (.tmp 9) (.const (.int .i64 14)), none, false⟩,
 ⟨(some 64), .move (.tmp 65), none, false⟩])
 (.cond (.tmp 64)
 (.seq (.region false [⟨(some 67), .faddr 0 1 false (.tmp 4), none, false⟩,
 ⟨(some 68), .load 1 false (.tmp 67), none, false⟩,
 ⟨(some 69), .faddr 1 1 false (.tmp 4), none, false⟩,
 ⟨(some 70), .load 1 false (.tmp 69), none, false⟩,
 ⟨(some 71), .faddr 0 1 false (.tmp 5), none, false⟩,
 ⟨(some 72), .load 1 false (.tmp 71), none, false⟩,
 ⟨(some 73), .faddr 1 1 false (.tmp 5), none, false⟩,
 ⟨(some 74), .load 1 false (.tmp 73), none, false⟩,
 ⟨(some 75), .call (.func 49) [(.tmp 68), (.tmp 70), (.tmp 72), (.tmp 74)], none, false⟩,
 ⟨(some 66), .move (.tmp 75), none, false⟩,
 ⟨(some 76), .extract (.tmp 66) 0, none, false⟩,
 ⟨(some 77), .extract (.tmp 66) 1, none, false⟩,
 ⟨(some 7), .move (.tmp 76), none, false⟩,
 ⟨(some 8), .move (.tmp 77), none, false⟩])
 (.seq (.region false [⟨(some 78), .move (.tmp 7), none, false⟩,
 ⟨(some 79), .faddr 1 1 false (.tmp 4), none, false⟩,
 ⟨(some 80), .load 1 false (.tmp 79), none, false⟩,
 ⟨(some 81), .faddr 1 1 false (.tmp 5), none, false⟩,
 ⟨(some 82), .load 1 false (.tmp 81), none, false⟩,
 ⟨(some 83), .bin .add 3 (.tmp 80) (.tmp 82), none, false⟩,
 ⟨(some 84), .build [(.int .u32 0), (.int .i64 0)] [(0, 1, (.tmp 78)), (1, 1, (.tmp 83))], none, false⟩,
 ⟨none, .store 2 (.tmp 6) (.tmp 84), none, false⟩])
 (.ret)))
 (.seq (.region false [⟨(some 86), .bin .eql 3 (.tmp 9) (.const (.int .i64 15)), none, false⟩,
 ⟨(some 85), .move (.tmp 86), none, false⟩])
 (.cond (.tmp 85)
 (.seq (.region false [⟨(some 87), .faddr 0 1 false (.tmp 4), none, false⟩,
 ⟨(some 88), .load 1 false (.tmp 87), none, false⟩,
 ⟨(some 89), .faddr 0 1 false (.tmp 5), none, false⟩,
 ⟨(some 90), .load 1 false (.tmp 89), none, false⟩,
 ⟨(some 91), .bin .eql 50 (.tmp 88) (.tmp 90), none, false⟩,
 ⟨(some 92), .call (.func 50) [(.tmp 91)], none, false⟩,
 ⟨none, .store 2 (.tmp 6) (.tmp 92), none, false⟩])
 (.ret))
 (.skip)))))))))))))))))
 (.seq (.region false [⟨(some 93), .faddr 0 1 false (.tmp 4), none, false⟩,
 ⟨(some 94), .load 1 false (.tmp 93), none, false⟩,
 ⟨(some 95), .faddr 0 1 false (.tmp 5), none, false⟩,
 ⟨(some 96), .load 1 false (.tmp 95), none, false⟩,
 ⟨(some 97), .bin .lss 50 (.tmp 94) (.tmp 96), none, false⟩,
 ⟨(some 98), .call (.func 50) [(.tmp 97)], none, false⟩,
 ⟨none, .store 2 (.tmp 6) (.tmp 98), none, false⟩])
 (.ret)))
theorem text35 : FnText Try.prog 35 [6] 99 3 ac35 [(6, some (2, true))] :=
 ⟨Try.call35, follows, Try.f35, _, Try.func35, rfl, rfl, by decide, by kernel_rfl, by kernel_rfl⟩


/-- (*patchbay/expr.machine).eval -/
def ac21 : AC :=
 .seq (.region false [⟨(some 2), .alloc true 77 (.agg [(.int .u32 0), (.int .i64 0)].toArray), none, false⟩])
 (.seq (.region true [⟨(some 9), .move (.tmp 0), none, false⟩,
 ⟨(some 10), .nilCheck (.tmp 9), none, false⟩,
 ⟨(some 11), .faddr 15 1 false (.tmp 10), none, false⟩,
 ⟨(some 12), .load 1 false (.tmp 11), none, false⟩,
 ⟨(some 13), .move (.tmp 0), none, false⟩,
 ⟨(some 14), .nilCheck (.tmp 13), none, false⟩,
 ⟨(some 15), .faddr 16 1 false (.tmp 14), none, false⟩,
 ⟨(some 16), .load 1 false (.tmp 15), none, false⟩,
 ⟨(some 17), .iaddr 3 (.tmp 12) (.tmp 16), none, false⟩,
 ⟨(some 18), .load 3 true (.tmp 17), none, false⟩,
 ⟨(some 3), .alloc true 53 (.agg [(.int .i64 0), (.int .i64 0), (.int .i64 0)].toArray), none, false⟩,
 ⟨none, .store 3 (.tmp 3) (.tmp 18), none, false⟩])
 (.seq (.region false [⟨(some 19), .move (.tmp 0), none, false⟩,
 ⟨(some 20), .nilCheck (.tmp 19), none, false⟩,
 ⟨(some 21), .faddr 16 1 false (.tmp 20), none, false⟩,
 ⟨(some 22), .load 1 false (.tmp 21), none, false⟩,
 ⟨(some 23), .bin .add 3 (.tmp 22) (.const (.int .i64 1)), none, false⟩,
 ⟨(some 24), .nilCheck (.tmp 19), none, false⟩,
 ⟨(some 25), .faddr 16 1 false (.tmp 24), none, false⟩,
 ⟨none, .store 1 (.tmp 25) (.tmp 23), none, false⟩])
 (.seq (.seq (.region false [⟨(some 26), .faddr 0 1 false (.tmp 3), none, false⟩,
 ⟨(some 27), .load 1 false (.tmp 26), none, false⟩,
 ⟨(some 28), .call (.func 20) [(.tmp 27)], none, false⟩])
 (.block 0 (.seq (.region false [⟨(some 30), .bin .eql 3 (.tmp 28) (.const (.int .i64 0)), none, false⟩,
 ⟨(some 29), .move (.tmp 30), none, false⟩])
 (.cond (.tmp 29)
 (.seq (.region false [⟨(some 31), .move (.tmp 0), none, false⟩,
 ⟨(some 32), .load 3 true (.tmp 3), none, false⟩,
 ⟨(some 33), .call (.func 33) [(.tmp 31), (.tmp 32)], none, false⟩,
 ⟨none, .store 2 (.tmp 2) (.tmp 33), none, false⟩])
 (.ret))
 (.seq (.region false [⟨(some 35), .bin .eql 3 (.tmp 28) (.const (.int .i64 1)), none, false⟩,
 ⟨(some 34), .move (.tmp 35), none, false⟩])
 (.cond (.tmp 34)
 (.seq (.regionU [⟨(some 36), .load 3 true (.tmp 3), none, true⟩,
 ⟨(some 37), .move (.tmp 0), none, false⟩,
 ⟨(some 38), .call (.func 21) [(.tmp 37)], none, false⟩,
 ⟨(some 39), .call (.func 34) [(.tmp 36), (.tmp 38)], none, false⟩,
 ⟨none, .store 2 (.tmp 2) (.tmp 39), none, false⟩])
 (.ret))
 (.seq (.region false [⟨(some 41), .bin .eql 3 (.tmp 28) (.const (.int .i64 2)), none, false⟩,
 ⟨(some 40), .move (.tmp 41), none, false⟩])
 (.cond (.tmp 40)
 (.seq (.region false [⟨(some 42), .move (.tmp 0), none, false⟩,
 ⟨(some 43), .call (.func 21) [(.tmp 42)], none, false⟩,
 ⟨(some 4), .alloc true 77 (.agg [(.int .u32 0), (.int .i64 0)].toArray), none, false⟩,
 ⟨none, .store 2 (.tmp 4) (.tmp 43), none, false⟩])
 (.seq (.region false [⟨(some 44), .move (.tmp 0), none, false⟩,
 ⟨(some 45), .call (.func 21) [(.tmp 44)], none, false⟩,
 ⟨(some 5), .alloc true 77 (.agg [(.int .u32 0), (.int .i64 0)].toArray), none, false⟩,
 ⟨none, .store 2 (.tmp 5) (.tmp 45), none, false⟩])
 (.seq (.region false [⟨(some 46), .faddr 0 1 false (.tmp 3), none, false⟩,
 ⟨(some 47), .load 1 false (.tmp 46), none, false⟩,
 ⟨(some 48), .load 2 true (.tmp 4), none, false⟩,
 ⟨(some 49), .load 2 true (.tmp 5), none, false⟩,
 ⟨(some 50), .call (.func 35) [(.tmp 47), (.tmp 48), (.tmp 49)], none, false⟩,
 ⟨none, .store 2 (.tmp 2) (.tmp 50), none, false⟩])
 (.ret))))
 (.skip)))))))))
 (.seq (.region false [⟨(some 51), .move (.tmp 0), none, false⟩,
 ⟨(some 52), .call (.func 21) [(.tmp 51)], none, false⟩,
 ⟨(some 6), .alloc true 77 (.agg [(.int .u32 0), (.int .i64 0)].toArray), none, false⟩,
 ⟨none, .store 2 (.tmp 6) (.tmp 52), none, false⟩])
 (.seq (.region false [⟨(some 53), .move (.tmp 0), none, false⟩,
 ⟨(some 54), .call (.func 21) [(.tmp 53)], none, false⟩,
 ⟨(some 7), .alloc true 77 (.agg [(.int .u32 0), (.int .i64 0)].toArray), none, false⟩,
 ⟨none, .store 2 (.tmp 7) (.tmp 54), none, false⟩])
 (.seq (.region false [⟨(some 55), .move (.tmp 0), none, false⟩,
 ⟨(some 56), .call (.func 21) [(.tmp 55)], none, false⟩,
 ⟨(some 8), .alloc true 77 (.agg [(.int .u32 0), (.int .i64 0)].toArray), none, false⟩,
 ⟨none, .store 2 (.tmp 8) (.tmp 56), none, false⟩])
 (.seq (.seq (.region false [⟨(some 57), .faddr 0 1 false (.tmp 6), none, false⟩,
 ⟨(some 58), .load 1 false (.tmp 57), none, false⟩,
 ⟨(some 59), .bin .eql 50 (.tmp 58) (.const (.int .u32 1)), none, false⟩])
 (.cond (.tmp 59)
 (.seq (.region false [⟨(some 60), .load 2 true (.tmp 7), none, false⟩,
 ⟨none, .store 2 (.tmp 2) (.tmp 60), none, false⟩])
 (.ret))
 (.skip)))
 (.seq (.region false [⟨(some 61), .load 2 true (.tmp 8), none, false⟩,
 ⟨none, .store 2 (.tmp 2) (.tmp 61), none, false⟩])
 (.ret)))))))))
theorem text21 : FnText Try.prog 21 [2, 3, 4, 5, 6, 7, 8, 1000000] 62 1 ac21 [(2, some (2, true))] :=
 ⟨Try.call21, follows, Try.f21, _, Try.func21, rfl, rfl, by decide, by kernel_rfl, by kernel_rfl⟩


/-- patchbay/expr.Eval -/
def ac11 : AC :=
 .seq (.region false [⟨(some 5), .box false 46 (.tmp 1), none, false⟩,
 ⟨(some 6), .box false 38 (.tmp 2), none, false⟩,
 ⟨(some 8), .move (.const (.int .u32 0)), none, false⟩])
 (.seq (.seq (.region false [⟨(some 13), .move (.tmp 0), none, false⟩,
 ⟨(some 14), .load 10 true (.tmp 5), none, false⟩,
 ⟨(some 15), .call (.func 7) [(.tmp 13), (.tmp 14)], none, false⟩,
 ⟨(some 12), .move (.tmp 15), none, false⟩,
 ⟨(some 16), .extract (.tmp 12) 0, none, false⟩,
 ⟨(some 17), .extract (.tmp 12) 1, none, false⟩,
 ⟨(some 9), .move (.tmp 16), none, false⟩,
 ⟨(some 10), .move (.tmp 17), none, false⟩])
 (.seq (.region false [⟨(some 18), .move (.tmp 10), none, false⟩,
 ⟨(some 19), .bin .neq 42 (.tmp 18) (.const (.int .i64 0)), none, false⟩])
 (.cond (.tmp 19)
 (.seq (.region false [⟨(some 8), .move (.const (.int .u32 0)), none, false⟩])
 (.ret))
 (.skip))))
 (.seq (.region false [⟨(some 20), .load 10 true (.tmp 5), none, false⟩,
 ⟨(some 21), .load 4 true (.tmp 6), none, false⟩,
 ⟨(some 22), .move (.tmp 3), none, false⟩,
 ⟨(some 23), .move (.tmp 0), none, false⟩,
 ⟨(some 24), .build [(.string ⟨[].toArray⟩), (.slice none 0 0), (.slice none 0 0), (.slice none 0 0), (.slice none 0 0), (.slice none 0 0), (.slice none 0 0), (.slice none 0 0), (.slice none 0 0), (.slice none 0 0), (.slice none 0 0), (.slice none 0 0), (.slice none 0 0), (.slice none 0 0), (.slice none 0 0), (.slice none 0 0), (.int .i64 0)] [(0, 10, (.tmp 20)), (10, 4, (.tmp 21)), (14, 1, (.tmp 22)), (15, 1, (.tmp 23))], none, false⟩,
 ⟨(some 11), .alloc true 75 (.agg [(.string ⟨[].toArray⟩), (.slice none 0 0), (.slice none 0 0), (.slice none 0 0), (.slice none 0 0), (.slice none 0 0), (.slice none 0 0), (.slice none 0 0), (.slice none 0 0), (.slice none 0 0), (.slice none 0 0), (.slice none 0 0), (.slice none 0 0), (.slice none 0 0), (.slice none 0 0), (.slice none 0 0), (.int .i64 0)].toArray), none, false⟩,
 ⟨none, .store 17 (.tmp 11) (.tmp 24), none, false⟩])
 (.seq (.region false [⟨(some 25), .call (.func 21) [(.tmp 11)], none, false⟩,
 ⟨(some 26), .field 0 1 false (.tmp 25), none, false⟩,
 ⟨(some 8), .move (.tmp 26), none, false⟩])
 (.ret))))
theorem text11 : FnText Try.prog 11 [11] 27 4 ac11 [(8, none)] :=
 ⟨Try.call11, follows, Try.f11, _, Try.func11, rfl, rfl, by decide, by kernel_rfl, by kernel_rfl⟩

def ac12_G1 : List AOper :=
 [⟨(some 29), .move (.tmp 8), (some (28, true)), false⟩,
 ⟨(some 30), .move (.tmp 10), (some (28, true)), false⟩,
 ⟨(some 31), .bin .eql 42 (.tmp 29) (.tmp 30), (some (28, true)), false⟩,
 ⟨(some 32), .pick (.tmp 28) (.tmp 31) (.const (.bool false)), none, false⟩]
def ac12_G2 : List AOper :=
 [⟨(some 34), .move (.tmp 1), (some (33, true)), false⟩,
 ⟨(some 35), .load 16 true (.tmp 3), (some (33, true)), false⟩,
 ⟨(some 36), .call (.func 8) [(.tmp 35)], (some (33, true)), false⟩,
 ⟨(some 37), .faddr 11 4 true (.tmp 3), (some (33, true)), false⟩,
 ⟨(some 38), .load 4 true (.tmp 37), (some (33, true)), false⟩,
 ⟨(some 39), .faddr 15 1 false (.tmp 3), (some (33, true)), false⟩,
 ⟨(some 40), .load 1 false (.tmp 39), (some (33, true)), false⟩,
 ⟨(some 41), .call (.func 11) [(.tmp 34), (.tmp 36), (.tmp 38), (.tmp 40)], (some (33, true)), false⟩,
 ⟨(some 42), .move (.tmp 2), (some (33, true)), false⟩,
 ⟨(some 43), .load 16 true (.tmp 3), (some (33, true)), false⟩,
 ⟨(some 44), .call (.func 8) [(.tmp 43)], (some (33, true)), false⟩,
 ⟨(some 45), .faddr 11 4 true (.tmp 3), (some (33, true)), false⟩,
 ⟨(some 46), .load 4 true (.tmp 45), (some (33, true)), false⟩,
 ⟨(some 47), .faddr 15 1 false (.tmp 3), (some (33, true)), false⟩,
 ⟨(some 48), .load 1 false (.tmp 47), (some (33, true)), false⟩,
 ⟨(some 49), .call (.func 11) [(.tmp 42), (.tmp 44), (.tmp 46), (.tmp 48)], (some (33, true)), false⟩,
 ⟨(some 50), .bin .eql 50 (.tmp 41) (.tmp 49), (some (33, true)), false⟩,
 ⟨(some 51), .pick (.tmp 33) (.tmp 50) (.const (.bool false)), none, false⟩]
/-- (patchbay/patchbaylaw13.Args).same -/
def ac12 : AC :=
 .seq (.region false [⟨(some 3), .box false 40 (.tmp 0), none, false⟩,
 ⟨(some 6), .move (.const (.bool false)), none, false⟩])
 (.seq (.region false [⟨(some 12), .move (.tmp 1), none, false⟩,
 ⟨(some 13), .load 16 true (.tmp 3), none, false⟩,
 ⟨(some 14), .call (.func 8) [(.tmp 13)], none, false⟩,
 ⟨(some 15), .call (.func 7) [(.tmp 12), (.tmp 14)], none, false⟩,
 ⟨(some 11), .move (.tmp 15), none, false⟩,
 ⟨(some 16), .extract (.tmp 11) 0, none, false⟩,
 ⟨(some 17), .extract (.tmp 11) 1, none, false⟩,
 ⟨(some 7), .move (.tmp 16), none, false⟩,
 ⟨(some 8), .move (.tmp 17), none, false⟩])
 (.seq (.region false [⟨(some 19), .move (.tmp 2), none, false⟩,
 ⟨(some 20), .load 16 true (.tmp 3), none, false⟩,
 ⟨(some 21), .call (.func 8) [(.tmp 20)], none, false⟩,
 ⟨(some 22), .call (.func 7) [(.tmp 19), (.tmp 21)], none, false⟩,
 ⟨(some 18), .move (.tmp 22), none, false⟩,
 ⟨(some 23), .extract (.tmp 18) 0, none, false⟩,
 ⟨(some 24), .extract (.tmp 18) 1, none, false⟩,
 ⟨(some 9), .move (.tmp 23), none, false⟩,
 ⟨(some 10), .move (.tmp 24), none, false⟩])
 (.seq (.region true (⟨(some 25), .move (.tmp 7), none, false⟩ :: ⟨(some 26), .move (.tmp 9), none, false⟩ :: ⟨(some 27), .bin .eql 3 (.tmp 25) (.tmp 26), none, false⟩ :: ⟨(some 28), .move (.tmp 27), none, false⟩ :: (ac12_G1 ++ (⟨(some 33), .move (.tmp 32), none, false⟩ :: (ac12_G2 ++ [⟨(some 6), .move (.tmp 51), none, false⟩])))))
 (.ret))))
theorem text12 : FnText Try.prog 12 [] 52 3 ac12 [(6, none)] :=
 ⟨Try.call12, follows, Try.f12, _, Try.func12, rfl, rfl, by decide, by kernel_rfl, by kernel_rfl⟩

def ac4_G1 : List AOper :=
 [⟨(some 31), .move (.tmp 9), (some (30, false)), false⟩,
 ⟨(some 32), .bin .neq 42 (.tmp 31) (.const (.int .i64 0)), (some (30, false)), false⟩,
 ⟨(some 33), .pick (.tmp 30) (.const (.bool true)) (.tmp 32), none, false⟩]
def ac4_G2 : List AOper :=
 [⟨(some 35), .move (.tmp 5), (some (34, false)), false⟩,
 ⟨(some 36), .bi .len [32].toArray 3 [(.tmp 35)], (some (34, false)), false⟩,
 ⟨(some 37), .bin .gtr 3 (.tmp 36) (.const (.int .i64 20)), (some (34, false)), false⟩,
 ⟨(some 38), .pick (.tmp 34) (.const (.bool true)) (.tmp 37), none, false⟩]
def ac4_G3 : List AOper :=
 [⟨(some 53), .move (.tmp 5), (some (52, true)), false⟩,
 ⟨(some 54), .bi .len [32].toArray 3 [(.tmp 53)], (some (52, true)), false⟩,
 ⟨(some 55), .move (.tmp 1), (some (52, true)), false⟩,
 ⟨(some 56), .bi .len [32].toArray 3 [(.tmp 55)], (some (52, true)), false⟩,
 ⟨(some 57), .bin .add 3 (.tmp 54) (.tmp 56), (some (52, true)), false⟩,
 ⟨(some 58), .move (.tmp 1), (some (52, true)), false⟩,
 ⟨(some 59), .bi .len [32].toArray 3 [(.tmp 58)], (some (52, true)), false⟩,
 ⟨(some 60), .bin .add 3 (.tmp 57) (.tmp 59), (some (52, true)), false⟩,
 ⟨(some 61), .bin .leq 3 (.tmp 60) (.const (.int .i64 22)), (some (52, true)), false⟩,
 ⟨(some 62), .pick (.tmp 52) (.tmp 61) (.const (.bool false)), none, false⟩]
def ac4_G4 : List AOper :=
 [⟨(some 64), .load 16 true (.tmp 2), (some (63, true)), false⟩,
 ⟨(some 65), .build [(.int .i64 0), (.int .i64 0), (.int .i64 0)] [(0, 1, (.const (.int .i64 10)))], (some (63, true)), false⟩,
 ⟨(some 66), .build [(.int .i64 0), (.int .i64 0), (.int .i64 0)] [(0, 1, (.const (.int .i64 9)))], (some (63, true)), false⟩,
 ⟨(some 67), .bslice false 53 3 false [(.tmp 65), (.tmp 66)], (some (63, true)), false⟩,
 ⟨(some 68), .move (.tmp 5), (some (63, true)), false⟩,
 ⟨(some 69), .move (.tmp 1), (some (63, true)), false⟩,
 ⟨(some 70), .call (.func 10) [(.tmp 68), (.tmp 69), (.const (.slice none 0 0))], (some (63, true)), false⟩,
 ⟨(some 71), .move (.tmp 1), (some (63, true)), false⟩,
 ⟨(some 72), .call (.func 10) [(.tmp 67), (.tmp 70), (.tmp 71)], (some (63, true)), false⟩,
 ⟨(some 73), .move (.tmp 5), (some (63, true)), false⟩,
 ⟨(some 74), .call (.func 12) [(.tmp 64), (.tmp 72), (.tmp 73)], (some (63, true)), false⟩,
 ⟨(some 75), .un .not (.tmp 74), (some (63, true)), false⟩,
 ⟨(some 76), .pick (.tmp 63) (.tmp 75) (.const (.bool false)), none, false⟩]
def ac4_G5 : List AOper :=
 [⟨(some 82), .move (.tmp 5), (some (81, false)), false⟩,
 ⟨(some 83), .bi .len [32].toArray 3 [(.tmp 82)], (some (81, false)), false⟩,
 ⟨(some 84), .move (.tmp 1), (some (81, false)), false⟩,
 ⟨(some 85), .bi .len [32].toArray 3 [(.tmp 84)], (some (81, false)), false⟩,
 ⟨(some 86), .bin .add 3 (.tmp 83) (.tmp 85), (some (81, false)), false⟩,
 ⟨(some 87), .bin .gtr 3 (.tmp 86) (.const (.int .i64 22)), (some (81, false)), false⟩,
 ⟨(some 88), .pick (.tmp 81) (.const (.bool true)) (.tmp 87), none, false⟩]
def ac4_G6 : List AOper :=
 [⟨(some 110), .load 16 true (.tmp 2), (some (109, true)), false⟩,
 ⟨(some 111), .move (.tmp 11), (some (109, true)), false⟩,
 ⟨(some 112), .move (.tmp 1), (some (109, true)), false⟩,
 ⟨(some 113), .call (.func 12) [(.tmp 110), (.tmp 111), (.tmp 112)], (some (109, true)), false⟩,
 ⟨(some 114), .pick (.tmp 109) (.tmp 113) (.const (.bool false)), none, false⟩]
def ac4_G7 : List AOper :=
 [⟨(some 116), .call (.func 6) [], (some (115, true)), false⟩,
 ⟨(some 117), .pick (.tmp 115) (.tmp 116) (.const (.bool false)), none, false⟩]
/-- patchbay/patchbaylaw13.ExprAlgebra -/
def ac4 : AC :=
 .seq (.region false [⟨(some 2), .box false 40 (.tmp 0), none, false⟩,
 ⟨(some 4), .move (.const (.bool false)), none, false⟩])
 (.seq (.region false [⟨(some 12), .faddr 10 1 false (.tmp 2), none, false⟩,
 ⟨(some 13), .load 1 false (.tmp 12), none, false⟩,
 ⟨(some 5), .move (.tmp 13), none, false⟩])
 (.seq (.region false [⟨(some 15), .move (.tmp 5), none, false⟩,
 ⟨(some 16), .load 16 true (.tmp 2), none, false⟩,
 ⟨(some 17), .call (.func 8) [(.tmp 16)], none, false⟩,
 ⟨(some 18), .call (.func 7) [(.tmp 15), (.tmp 17)], none, false⟩,
 ⟨(some 14), .move (.tmp 18), none, false⟩,
 ⟨(some 19), .extract (.tmp 14) 0, none, false⟩,
 ⟨(some 20), .extract (.tmp 14) 1, none, false⟩,
 ⟨(some 6), .move (.tmp 19), none, false⟩,
 ⟨(some 7), .move (.tmp 20), none, false⟩])
 (.seq (.region false [⟨(some 22), .move (.tmp 1), none, false⟩,
 ⟨(some 23), .load 16 true (.tmp 2), none, false⟩,
 ⟨(some 24), .call (.func 8) [(.tmp 23)], none, false⟩,
 ⟨(some 25), .call (.func 7) [(.tmp 22), (.tmp 24)], none, false⟩,
 ⟨(some 21), .move (.tmp 25), none, false⟩,
 ⟨(some 26), .extract (.tmp 21) 0, none, false⟩,
 ⟨(some 27), .extract (.tmp 21) 1, none, false⟩,
 ⟨(some 8), .move (.tmp 26), none, false⟩,
 ⟨(some 9), .move (.tmp 27), none, false⟩])
 (.seq (.seq (.region false (⟨(some 28), .move (.tmp 7), none, false⟩ :: ⟨(some 29), .bin .neq 42 (.tmp 28) (.const (.int .i64 0)), none, false⟩ :: ⟨(some 30), .move (.tmp 29), none, false⟩ :: (ac4_G1 ++ (⟨(some 34), .move (.tmp 33), none, false⟩ :: (ac4_G2 ++ [])))))
 (.cond (.tmp 38)
 (.seq (.region false [⟨(some 39), .call (.func 6) [], none, false⟩,
 ⟨(some 4), .move (.tmp 39), none, false⟩])
 (.ret))
 (.skip)))
 (.seq (.seq (.region true [⟨(some 40), .load 16 true (.tmp 2), none, false⟩,
 ⟨(some 41), .build [(.int .i64 0), (.int .i64 0), (.int .i64 0)] [(0, 1, (.const (.int .i64 5)))], none, false⟩,
 ⟨(some 42), .build [(.int .i64 0), (.int .i64 0), (.int .i64 0)] [(0, 1, (.const (.int .i64 5)))], none, false⟩,
 ⟨(some 43), .bslice false 53 3 false [(.tmp 41), (.tmp 42)], none, false⟩,
 ⟨(some 44), .move (.tmp 5), none, false⟩,
 ⟨(some 45), .call (.func 10) [(.tmp 43), (.tmp 44), (.const (.slice none 0 0))], none, false⟩,
 ⟨(some 46), .move (.tmp 5), none, false⟩,
 ⟨(some 47), .call (.func 12) [(.tmp 40), (.tmp 45), (.tmp 46)], none, false⟩,
 ⟨(some 48), .un .not (.tmp 47), none, false⟩])
 (.cond (.tmp 48)
 (.seq (.region false [⟨(some 4), .move (.const (.bool false)), none, false⟩])
 (.ret))
 (.skip)))
 (.seq (.seq (.region true (⟨(some 49), .move (.tmp 6), none, false⟩ :: ⟨(some 50), .move (.tmp 8), none, false⟩ :: ⟨(some 51), .bin .eql 3 (.tmp 49) (.tmp 50), none, false⟩ :: ⟨(some 52), .move (.tmp 51), none, false⟩ :: (ac4_G3 ++ (⟨(some 63), .move (.tmp 62), none, false⟩ :: (ac4_G4 ++ [])))))
 (.cond (.tmp 76)
 (.seq (.region false [⟨(some 4), .move (.const (.bool false)), none, false⟩])
 (.ret))
 (.skip)))
 (.seq (.seq (.region false (⟨(some 77), .move (.tmp 6), none, false⟩ :: ⟨(some 78), .move (.tmp 8), none, false⟩ :: ⟨(some 79), .bin .add 3 (.tmp 77) (.tmp 78), none, false⟩ :: ⟨(some 80), .bin .gtr 3 (.tmp 79) (.const (.int .i64 32)), none, false⟩ :: ⟨(some 81), .move (.tmp 80), none, false⟩ :: (ac4_G5 ++ [])))
 (.cond (.tmp 88)
 (.seq (.region false [⟨(some 89), .call (.func 6) [], none, false⟩,
 ⟨(some 4), .move (.tmp 89), none, false⟩])
 (.ret))
 (.skip)))
 (.seq (.region false [⟨(some 90), .move (.tmp 8), none, false⟩,
 ⟨(some 91), .move (.tmp 6), none, false⟩,
 ⟨(some 92), .build [(.int .i64 0), (.int .i64 0), (.int .i64 0)] [(0, 1, (.const (.int .i64 8))), (1, 1, (.tmp 90)), (2, 1, (.tmp 91))], none, false⟩,
 ⟨(some 93), .build [(.int .i64 0), (.int .i64 0), (.int .i64 0)] [(0, 1, (.const (.int .i64 14)))], none, false⟩,
 ⟨(some 94), .bslice false 53 3 false [(.tmp 92), (.tmp 93)], none, false⟩,
 ⟨(some 95), .move (.tmp 5), none, false⟩,
 ⟨(some 96), .move (.tmp 1), none, false⟩,
 ⟨(some 97), .call (.func 10) [(.tmp 94), (.tmp 95), (.tmp 96)], none, false⟩,
 ⟨(some 10), .move (.tmp 97), none, false⟩])
 (.seq (.region false [⟨(some 98), .move (.tmp 8), none, false⟩,
 ⟨(some 99), .build [(.int .i64 0), (.int .i64 0), (.int .i64 0)] [(0, 1, (.const (.int .i64 8))), (1, 1, (.const (.int .i64 0))), (2, 1, (.tmp 98))], none, false⟩,
 ⟨(some 100), .build [(.int .i64 0), (.int .i64 0), (.int .i64 0)] [(0, 1, (.const (.int .i64 14)))], none, false⟩,
 ⟨(some 101), .bslice false 53 3 false [(.tmp 99), (.tmp 100)], none, false⟩,
 ⟨(some 102), .move (.tmp 5), none, false⟩,
 ⟨(some 103), .move (.tmp 1), none, false⟩,
 ⟨(some 104), .call (.func 10) [(.tmp 101), (.tmp 102), (.tmp 103)], none, false⟩,
 ⟨(some 11), .move (.tmp 104), none, false⟩])
 (.seq (.region false (⟨(some 105), .load 16 true (.tmp 2), none, false⟩ :: ⟨(some 106), .move (.tmp 10), none, false⟩ :: ⟨(some 107), .move (.tmp 5), none, false⟩ :: ⟨(some 108), .call (.func 12) [(.tmp 105), (.tmp 106), (.tmp 107)], none, false⟩ :: ⟨(some 109), .move (.tmp 108), none, false⟩ :: (ac4_G6 ++ (⟨(some 115), .move (.tmp 114), none, false⟩ :: (ac4_G7 ++ [⟨(some 4), .move (.tmp 117), none, false⟩])))))
 (.ret)))))))))))
theorem text4 : FnText Try.prog 4 [] 118 2 ac4 [(4, none)] :=
 ⟨Try.call4, follows, Try.f4, _, Try.func4, rfl, rfl, by decide, by kernel_rfl, by kernel_rfl⟩


/-- patchbay/patchbaylaw13.constant -/
def ac14 : AC :=
 .seq (.region false [⟨(some 2), .alloc true 53 (.agg [(.int .i64 0), (.int .i64 0), (.int .i64 0)].toArray), none, false⟩])
 (.seq (.region false [⟨(some 3), .move (.tmp 0), none, false⟩,
 ⟨(some 4), .build [(.int .i64 0), (.int .i64 0), (.int .i64 0)] [(0, 1, (.const (.int .i64 1))), (1, 1, (.tmp 3)), (2, 1, (.const (.int .i64 8)))], none, false⟩,
 ⟨none, .store 3 (.tmp 2) (.tmp 4), none, false⟩])
 (.ret))
theorem text14 : FnText Try.prog 14 [2] 5 1 ac14 [(2, some (3, true))] :=
 ⟨Try.call14, follows, Try.f14, _, Try.func14, rfl, rfl, by decide, by kernel_rfl, by kernel_rfl⟩

def ac9_G1 : List AOper :=
 [⟨(some 10), .move (.tmp 1), (some (9, false)), false⟩,
 ⟨(some 11), .move (.tmp 0), (some (9, false)), false⟩,
 ⟨(some 12), .bi .len [32].toArray 3 [(.tmp 11)], (some (9, false)), false⟩,
 ⟨(some 13), .bin .geq 3 (.tmp 10) (.tmp 12), (some (9, false)), false⟩,
 ⟨(some 14), .pick (.tmp 9) (.const (.bool true)) (.tmp 13), none, false⟩]
def ac9_L1 : AC :=
 .seq (.seq (.region false [⟨(some 15), .move (.tmp 5), none, false⟩,
 ⟨(some 16), .bin .gtr 3 (.tmp 15) (.const (.int .i64 0)), none, false⟩])
 (.cond (.tmp 16)
 (.skip)
 (.exit 0)))
 (.seq (.block 1 (.seq (.seq (.region false [⟨(some 19), .move (.tmp 1), none, false⟩,
 ⟨(some 20), .move (.tmp 0), none, false⟩,
 ⟨(some 21), .bi .len [32].toArray 3 [(.tmp 20)], none, false⟩,
 ⟨(some 22), .bin .geq 3 (.tmp 19) (.tmp 21), none, false⟩])
 (.cond (.tmp 22)
 (.seq (.region false [⟨(some 4), .move (.const (.int .i64 (-1))), none, false⟩])
 (.ret))
 (.skip)))
 (.seq (.region false [⟨(some 23), .move (.tmp 0), none, false⟩,
 ⟨(some 24), .move (.tmp 1), none, false⟩,
 ⟨(some 25), .iaddr 3 (.tmp 23) (.tmp 24), none, false⟩,
 ⟨(some 26), .faddr 0 1 false (.tmp 25), none, false⟩,
 ⟨(some 27), .load 1 false (.tmp 26), none, false⟩,
 ⟨(some 28), .call (.func 20) [(.tmp 27)], none, false⟩,
 ⟨(some 6), .move (.tmp 28), none, false⟩])
 (.seq (.seq (.region false [⟨(some 29), .move (.tmp 6), none, false⟩,
 ⟨(some 30), .bin .lss 3 (.tmp 29) (.const (.int .i64 0)), none, false⟩])
 (.cond (.tmp 30)
 (.seq (.region false [⟨(some 4), .move (.const (.int .i64 (-1))), none, false⟩])
 (.ret))
 (.skip)))
 (.region false [⟨(some 31), .move (.tmp 5), none, false⟩,
 ⟨(some 32), .move (.tmp 6), none, false⟩,
 ⟨(some 33), .bin .sub 3 (.tmp 32) (.const (.int .i64 1)), none, false⟩,
 ⟨(some 34), .bin .add 3 (.tmp 31) (.tmp 33), none, false⟩,
 ⟨(some 5), .move (.tmp 34), none, false⟩])))))
 (.region false [⟨(some 17), .move (.tmp 1), none, false⟩,
 ⟨(some 18), .bin .add 3 (.tmp 17) (.const (.int .i64 1)), none, false⟩,
 ⟨(some 1), .move (.tmp 18), none, false⟩]))
/-- patchbay/expr.End -/
def ac9 : AC :=
 .seq (.region false [⟨(some 4), .move (.const (.int .i64 0)), none, false⟩])
 (.seq (.seq (.region false (⟨(some 7), .move (.tmp 1), none, false⟩ :: ⟨(some 8), .bin .lss 3 (.tmp 7) (.const (.int .i64 0)), none, false⟩ :: ⟨(some 9), .move (.tmp 8), none, false⟩ :: (ac9_G1 ++ [])))
 (.cond (.tmp 14)
 (.seq (.region false [⟨(some 4), .move (.const (.int .i64 (-1))), none, false⟩])
 (.ret))
 (.skip)))
 (.seq (.seq (.region false [⟨(some 5), .move (.const (.int .i64 1)), none, false⟩])
 (.block 0 (.loop ac9_L1)))
 (.seq (.region false [⟨(some 35), .move (.tmp 1), none, false⟩,
 ⟨(some 4), .move (.tmp 35), none, false⟩])
 (.ret))))
theorem text9 : FnText Try.prog 9 [] 36 2 ac9 [(4, none)] :=
 ⟨Try.call9, follows, Try.f9, _, Try.func9, rfl, rfl, by decide, by kernel_rfl, by kernel_rfl⟩

def ac16_L1 : AC :=
 .seq (.region false [⟨(some 9), .bin .lss 3 (.tmp 8) (.tmp 7), none, false⟩])
 (.seq (.cond (.tmp 9)
 (.skip)
 (.exit 0))
 (.seq (.block 1 (.seq (.region false [⟨(some 10), .iaddr 3 (.tmp 6) (.tmp 8), none, false⟩,
 ⟨(some 11), .load 3 true (.tmp 10), none, false⟩,
 ⟨(some 5), .alloc true 53 (.agg [(.int .i64 0), (.int .i64 0), (.int .i64 0)].toArray), none, false⟩,
 ⟨none, .store 3 (.tmp 5) (.tmp 11), none, false⟩])
 (.seq (.region false [⟨(some 12), .faddr 0 1 false (.tmp 5), none, false⟩,
 ⟨(some 13), .load 1 false (.tmp 12), none, false⟩,
 ⟨(some 14), .bin .eql 3 (.tmp 13) (.const (.int .i64 2)), none, false⟩])
 (.cond (.tmp 14)
 (.region false [⟨(some 15), .move (.tmp 3), none, false⟩,
 ⟨(some 16), .faddr 1 1 false (.tmp 5), none, false⟩,
 ⟨(some 17), .load 1 false (.tmp 16), none, false⟩,
 ⟨(some 18), .faddr 2 1 false (.tmp 5), none, false⟩,
 ⟨(some 19), .load 1 false (.tmp 18), none, false⟩,
 ⟨(some 20), .build [(.int .i64 0), (.int .i64 0)] [(0, 1, (.tmp 17)), (1, 1, (.tmp 19))], none, false⟩,
 ⟨(some 21), .bslice false 68 2 false [(.tmp 20)], none, false⟩,
 ⟨(some 22), .append 65 68 2 16 (.tmp 15) (.tmp 21), none, false⟩,
 ⟨(some 3), .move (.tmp 22), none, false⟩])
 (.skip)))))
 (.region false [⟨(some 23), .bin .add 3 (.tmp 8) (.const (.int .i64 1)), none, false⟩,
 ⟨(some 8), .move (.tmp 23), none, false⟩])))
/-- patchbay/expr.Fields -/
def ac16 : AC :=
 .seq (.region false [⟨(some 2), .move (.const (.slice none 0 0)), none, false⟩])
 (.seq (.region false [⟨(some 3), .move (.const (.slice none 0 0)), none, false⟩])
 (.seq (.seq (.region false [⟨(some 6), .move (.tmp 0), none, false⟩,
 ⟨(some 7), .bi .len [32].toArray 3 [(.tmp 6)], none, false⟩,
 ⟨(some 8), .move (.const (.int .i64 0)), none, false⟩])
 (.block 0 (.loop ac16_L1)))
 (.seq (.region false [⟨(some 24), .move (.tmp 3), none, false⟩,
 ⟨(some 25), .call (.func 24) [(.tmp 24), (.func 25)], none, false⟩])
 (.seq (.region false [⟨(some 26), .move (.tmp 3), none, false⟩,
 ⟨(some 27), .call (.func 28) [(.tmp 26)], none, false⟩,
 ⟨(some 2), .move (.tmp 27), none, false⟩])
 (.ret)))))
theorem text16 : FnText Try.prog 16 [5] 28 1 ac16 [(2, none)] :=
 ⟨Try.call16, follows, Try.f16, _, Try.func16, rfl, rfl, by decide, by kernel_rfl, by kernel_rfl⟩


/-- slices.SortFunc[[]patchbay/api.FieldRef,patchbay/api.FieldRef] -/
def ac24 : AC :=
 .seq (.region false [⟨(some 5), .move (.tmp 0), none, false⟩,
 ⟨(some 6), .bi .len [65].toArray 3 [(.tmp 5)], none, false⟩,
 ⟨(some 4), .move (.tmp 6), none, false⟩])
 (.region false [⟨(some 7), .move (.tmp 0), none, false⟩,
 ⟨(some 8), .move (.tmp 4), none, false⟩,
 ⟨(some 9), .move (.tmp 4), none, false⟩,
 ⟨(some 10), .conv 3 97 (.tmp 9), none, false⟩,
 ⟨(some 11), .call (.func 37) [(.tmp 10)], none, false⟩,
 ⟨(some 12), .move (.tmp 1), none, false⟩,
 ⟨(some 13), .call (.func 36) [(.tmp 7), (.const (.int .i64 0)), (.tmp 8), (.tmp 11), (.tmp 12)], none, false⟩])
theorem text24 : FnText Try.prog 24 [] 14 2 ac24 [] :=
 ⟨Try.call24, follows, Try.f24, _, Try.func24, rfl, rfl, by decide, by kernel_rfl, by kernel_rfl⟩


/-- math/bits.Len -/
def ac37 : AC :=
 .seq (.region false [⟨(some 2), .move (.const (.int .i64 0)), none, false⟩])
 (.seq (.cond (.const (.bool false))
 (.seq (.region false [⟨(some 3), .move (.tmp 0), none, false⟩,
 ⟨(some 4), .conv 97 50 (.tmp 3), none, false⟩,
 ⟨(some 5), .call (.func 59) [(.tmp 4)], none, false⟩,
 ⟨(some 2), .move (.tmp 5), none, false⟩])
 (.ret))
 (.skip))
 (.seq (.region false [⟨(some 6), .move (.tmp 0), none, false⟩,
 ⟨(some 7), .call (.func 60) [(.tmp 6)], none, false⟩,
 ⟨(some 2), .move (.tmp 7), none, false⟩])
 (.ret)))
theorem text37 : FnText Try.prog 37 [] 8 1 ac37 [(2, none)] :=
 ⟨Try.call37, follows, Try.f37, _, Try.func37, rfl, rfl, by decide, by kernel_rfl, by kernel_rfl⟩


/-- math/bits.Len32 -/
def ac59 : AC :=
 .seq (.region false [⟨(some 2), .move (.const (.int .i64 0)), none, false⟩])
 (.seq (.seq (.region false [⟨(some 3), .move (.tmp 0), none, false⟩,
 ⟨(some 4), .bin .geq 50 (.tmp 3) (.const (.int .u32 65536)), none, false⟩])
 (.cond (.tmp 4)
 (.seq (.region false [⟨(some 5), .move (.tmp 0), none, false⟩,
 ⟨(some 6), .bin .shr 50 (.tmp 5) (.const (.int .u64 16)), none, false⟩,
 ⟨(some 0), .move (.tmp 6), none, false⟩])
 (.region false [⟨(some 2), .move (.const (.int .i64 16)), none, false⟩]))
 (.skip)))
 (.seq (.seq (.region false [⟨(some 7), .move (.tmp 0), none, false⟩,
 ⟨(some 8), .bin .geq 50 (.tmp 7) (.const (.int .u32 256)), none, false⟩])
 (.cond (.tmp 8)
 (.seq (.region false [⟨(some 9), .move (.tmp 0), none, false⟩,
 ⟨(some 10), .bin .shr 50 (.tmp 9) (.const (.int .u64 8)), none, false⟩,
 ⟨(some 0), .move (.tmp 10), none, false⟩])
 (.region false [⟨(some 11), .move (.tmp 2), none, false⟩,
 ⟨(some 12), .bin .add 3 (.tmp 11) (.const (.int .i64 8)), none, false⟩,
 ⟨(some 2), .move (.tmp 12), none, false⟩]))
 (.skip)))
 (.seq (.region false [⟨(some 13), .move (.tmp 2), none, false⟩,
 ⟨(some 14), .move (.tmp 0), none, false⟩,
 ⟨(some 15), .conv 50 5 (.tmp 14), none, false⟩,
 ⟨(some 16), .indexS 9 (.const (.string ⟨[0, 1, 2, 2, 3, 3, 3, 3, 4, 4, 4, 4, 4, 4, 4, 4, 5, 5, 5, 5, 5, 5, 5, 5, 5, 5, 5, 5, 5, 5, 5, 5, 6, 6, 6, 6, 6, 6, 6, 6, 6, 6, 6, 6, 6, 6, 6, 6, 6, 6, 6, 6, 6, 6, 6, 6, 6, 6, 6, 6, 6, 6, 6, 6, 7, 7, 7, 7, 7, 7, 7, 7, 7, 7, 7, 7, 7, 7, 7, 7, 7, 7, 7, 7, 7, 7, 7, 7, 7, 7, 7, 7, 7, 7, 7, 7, 7, 7, 7, 7, 7, 7, 7, 7, 7, 7, 7, 7, 7, 7, 7, 7, 7, 7, 7, 7, 7, 7, 7, 7, 7, 7, 7, 7, 7, 7, 7, 7, 8, 8, 8, 8, 8, 8, 8, 8, 8, 8, 8, 8, 8, 8, 8, 8, 8, 8, 8, 8, 8, 8, 8, 8, 8, 8, 8, 8, 8, 8, 8, 8, 8, 8, 8, 8, 8, 8, 8, 8, 8, 8, 8, 8, 8, 8, 8, 8, 8, 8, 8, 8, 8, 8, 8, 8, 8, 8, 8, 8, 8, 8, 8, 8, 8, 8, 8, 8, 8, 8, 8, 8, 8, 8, 8, 8, 8, 8, 8, 8, 8, 8, 8, 8, 8, 8, 8, 8, 8, 8, 8, 8, 8, 8, 8, 8, 8, 8, 8, 8, 8, 8, 8, 8, 8, 8, 8, 8, 8, 8, 8, 8, 8, 8, 8, 8, 8, 8, 8, 8, 8, 8, 8, 8, 8, 8, 8, 8].toArray⟩)) (.tmp 15), none, false⟩,
 ⟨(some 17), .conv 5 3 (.tmp 16), none, false⟩,
 ⟨(some 18), .bin .add 3 (.tmp 13) (.tmp 17), none, false⟩,
 ⟨(some 2), .move (.tmp 18), none, false⟩])
 (.ret))))
theorem text59 : FnText Try.prog 59 [] 19 1 ac59 [(2, none)] :=
 ⟨Try.call59, follows, Try.f59, _, Try.func59, rfl, rfl, by decide, by kernel_rfl, by kernel_rfl⟩


/-- math/bits.Len64 -/
def ac60 : AC :=
 .seq (.region false [⟨(some 2), .move (.const (.int .i64 0)), none, false⟩])
 (.seq (.seq (.region false [⟨(some 3), .move (.tmp 0), none, false⟩,
 ⟨(some 4), .bin .geq 120 (.tmp 3) (.const (.int .u64 4294967296)), none, false⟩])
 (.cond (.tmp 4)
 (.seq (.region false [⟨(some 5), .move (.tmp 0), none, false⟩,
 ⟨(some 6), .bin .shr 120 (.tmp 5) (.const (.int .u64 32)), none, false⟩,
 ⟨(some 0), .move (.tmp 6), none, false⟩])
 (.region false [⟨(some 2), .move (.const (.int .i64 32)), none, false⟩]))
 (.skip)))
 (.seq (.seq (.region false [⟨(some 7), .move (.tmp 0), none, false⟩,
 ⟨(some 8), .bin .geq 120 (.tmp 7) (.const (.int .u64 65536)), none, false⟩])
 (.cond (.tmp 8)
 (.seq (.region false [⟨(some 9), .move (.tmp 0), none, false⟩,
 ⟨(some 10), .bin .shr 120 (.tmp 9) (.const (.int .u64 16)), none, false⟩,
 ⟨(some 0), .move (.tmp 10), none, false⟩])
 (.region false [⟨(some 11), .move (.tmp 2), none, false⟩,
 ⟨(some 12), .bin .add 3 (.tmp 11) (.const (.int .i64 16)), none, false⟩,
 ⟨(some 2), .move (.tmp 12), none, false⟩]))
 (.skip)))
 (.seq (.seq (.region false [⟨(some 13), .move (.tmp 0), none, false⟩,
 ⟨(some 14), .bin .geq 120 (.tmp 13) (.const (.int .u64 256)), none, false⟩])
 (.cond (.tmp 14)
 (.seq (.region false [⟨(some 15), .move (.tmp 0), none, false⟩,
 ⟨(some 16), .bin .shr 120 (.tmp 15) (.const (.int .u64 8)), none, false⟩,
 ⟨(some 0), .move (.tmp 16), none, false⟩])
 (.region false [⟨(some 17), .move (.tmp 2), none, false⟩,
 ⟨(some 18), .bin .add 3 (.tmp 17) (.const (.int .i64 8)), none, false⟩,
 ⟨(some 2), .move (.tmp 18), none, false⟩]))
 (.skip)))
 (.seq (.region false [⟨(some 19), .move (.tmp 2), none, false⟩,
 ⟨(some 20), .move (.tmp 0), none, false⟩,
 ⟨(some 21), .conv 120 5 (.tmp 20), none, false⟩,
 ⟨(some 22), .indexS 9 (.const (.string ⟨[0, 1, 2, 2, 3, 3, 3, 3, 4, 4, 4, 4, 4, 4, 4, 4, 5, 5, 5, 5, 5, 5, 5, 5, 5, 5, 5, 5, 5, 5, 5, 5, 6, 6, 6, 6, 6, 6, 6, 6, 6, 6, 6, 6, 6, 6, 6, 6, 6, 6, 6, 6, 6, 6, 6, 6, 6, 6, 6, 6, 6, 6, 6, 6, 7, 7, 7, 7, 7, 7, 7, 7, 7, 7, 7, 7, 7, 7, 7, 7, 7, 7, 7, 7, 7, 7, 7, 7, 7, 7, 7, 7, 7, 7, 7, 7, 7, 7, 7, 7, 7, 7, 7, 7, 7, 7, 7, 7, 7, 7, 7, 7, 7, 7, 7, 7, 7, 7, 7, 7, 7, 7, 7, 7, 7, 7, 7, 7, 8, 8, 8, 8, 8, 8, 8, 8, 8, 8, 8, 8, 8, 8, 8, 8, 8, 8, 8, 8, 8, 8, 8, 8, 8, 8, 8, 8, 8, 8, 8, 8, 8, 8, 8, 8, 8, 8, 8, 8, 8, 8, 8, 8, 8, 8, 8, 8, 8, 8, 8, 8, 8, 8, 8, 8, 8, 8, 8, 8, 8, 8, 8, 8, 8, 8, 8, 8, 8, 8, 8, 8, 8, 8, 8, 8, 8, 8, 8, 8, 8, 8, 8, 8, 8, 8, 8, 8, 8, 8, 8, 8, 8, 8, 8, 8, 8, 8, 8, 8, 8, 8, 8, 8, 8, 8, 8, 8, 8, 8, 8, 8, 8, 8, 8, 8, 8, 8, 8, 8, 8, 8, 8, 8, 8, 8, 8, 8].toArray⟩)) (.tmp 21), none, false⟩,
 ⟨(some 23), .conv 5 3 (.tmp 22), none, false⟩,
 ⟨(some 24), .bin .add 3 (.tmp 19) (.tmp 23), none, false⟩,
 ⟨(some 2), .move (.tmp 24), none, false⟩])
 (.ret)))))
theorem text60 : FnText Try.prog 60 [] 25 1 ac60 [(2, none)] :=
 ⟨Try.call60, follows, Try.f60, _, Try.func60, rfl, rfl, by decide, by kernel_rfl, by kernel_rfl⟩

def ac36_G1 : List AOper :=
 [⟨(some 70), .move (.tmp 11), (some (69, true)), false⟩,
 ⟨(some 71), .pick (.tmp 69) (.tmp 70) (.const (.bool false)), none, false⟩]
def ac36_G2 : List AOper :=
 [⟨(some 73), .move (.tmp 14), (some (72, true)), false⟩,
 ⟨(some 74), .bin .eql 111 (.tmp 73) (.const (.int .i64 1)), (some (72, true)), false⟩,
 ⟨(some 75), .pick (.tmp 72) (.tmp 74) (.const (.bool false)), none, false⟩]
def ac36_G3 : List AOper :=
 [⟨(some 84), .move (.tmp 4), (some (83, true)), false⟩,
 ⟨(some 85), .move (.tmp 0), (some (83, true)), false⟩,
 ⟨(some 86), .move (.tmp 1), (some (83, true)), false⟩,
 ⟨(some 87), .bin .sub 3 (.tmp 86) (.const (.int .i64 1)), (some (83, true)), false⟩,
 ⟨(some 88), .iaddr 2 (.tmp 85) (.tmp 87), (some (83, true)), false⟩,
 ⟨(some 89), .load 2 true (.tmp 88), (some (83, true)), false⟩,
 ⟨(some 90), .move (.tmp 0), (some (83, true)), false⟩,
 ⟨(some 91), .move (.tmp 13), (some (83, true)), false⟩,
 ⟨(some 92), .iaddr 2 (.tmp 90) (.tmp 91), (some (83, true)), false⟩,
 ⟨(some 93), .load 2 true (.tmp 92), (some (83, true)), false⟩,
 ⟨(some 94), .call (.tmp 84) [(.tmp 89), (.tmp 93)], (some (83, true)), false⟩,
 ⟨(some 95), .bin .lss 3 (.tmp 94) (.const (.int .i64 0)), (some (83, true)), false⟩,
 ⟨(some 96), .un .not (.tmp 95), (some (83, true)), false⟩,
 ⟨(some 97), .pick (.tmp 83) (.tmp 96) (.const (.bool false)), none, false⟩]
def ac36_L1 : AC :=
 .block 1 (.seq (.region false [⟨(some 21), .move (.tmp 2), none, false⟩,
 ⟨(some 22), .move (.tmp 1), none, false⟩,
 ⟨(some 23), .bin .sub 3 (.tmp 21) (.tmp 22), none, false⟩,
 ⟨(some 12), .move (.tmp 23), none, false⟩])
 (.seq (.seq (.region false [⟨(some 24), .move (.tmp 12), none, false⟩,
 ⟨(some 25), .bin .leq 3 (.tmp 24) (.const (.int .i64 12)), none, false⟩])
 (.cond (.tmp 25)
 (.seq (.region false [⟨(some 26), .move (.tmp 0), none, false⟩,
 ⟨(some 27), .move (.tmp 1), none, false⟩,
 ⟨(some 28), .move (.tmp 2), none, false⟩,
 ⟨(some 29), .move (.tmp 4), none, false⟩,
 ⟨(some 30), .call (.func 51) [(.tmp 26), (.tmp 27), (.tmp 28), (.tmp 29)], none, false⟩])
 (.ret))
 (.skip)))
 (.seq (.seq (.region false [⟨(some 31), .move (.tmp 3), none, false⟩,
 ⟨(some 32), .bin .eql 3 (.tmp 31) (.const (.int .i64 0)), none, false⟩])
 (.cond (.tmp 32)
 (.seq (.region false [⟨(some 33), .move (.tmp 0), none, false⟩,
 ⟨(some 34), .move (.tmp 1), none, false⟩,
 ⟨(some 35), .move (.tmp 2), none, false⟩,
 ⟨(some 36), .move (.tmp 4), none, false⟩,
 ⟨(some 37), .call (.func 52) [(.tmp 33), (.tmp 34), (.tmp 35), (.tmp 36)], none, false⟩])
 (.ret))
 (.skip)))
 (.seq (.seq (.region false [⟨(some 38), .move (.tmp 10), none, false⟩,
 ⟨(some 39), .un .not (.tmp 38), none, false⟩])
 (.cond (.tmp 39)
 (.seq (.region false [⟨(some 40), .move (.tmp 0), none, false⟩,
 ⟨(some 41), .move (.tmp 1), none, false⟩,
 ⟨(some 42), .move (.tmp 2), none, false⟩,
 ⟨(some 43), .move (.tmp 4), none, false⟩,
 ⟨(some 44), .call (.func 53) [(.tmp 40), (.tmp 41), (.tmp 42), (.tmp 43)], none, false⟩])
 (.region false [⟨(some 45), .move (.tmp 3), none, false⟩,
 ⟨(some 46), .bin .sub 3 (.tmp 45) (.const (.int .i64 1)), none, false⟩,
 ⟨(some 3), .move (.tmp 46), none, false⟩]))
 (.skip)))
 (.seq (.region false [⟨(some 48), .move (.tmp 0), none, false⟩,
 ⟨(some 49), .move (.tmp 1), none, false⟩,
 ⟨(some 50), .move (.tmp 2), none, false⟩,
 ⟨(some 51), .move (.tmp 4), none, false⟩,
 ⟨(some 52), .call (.func 54) [(.tmp 48), (.tmp 49), (.tmp 50), (.tmp 51)], none, false⟩,
 ⟨(some 47), .move (.tmp 52), none, false⟩,
 ⟨(some 53), .extract (.tmp 47) 0, none, false⟩,
 ⟨(some 54), .extract (.tmp 47) 1, none, false⟩,
 ⟨(some 13), .move (.tmp 53), none, false⟩,
 ⟨(some 14), .move (.tmp 54), none, false⟩])
 (.seq (.seq (.region false [⟨(some 55), .move (.tmp 14), none, false⟩,
 ⟨(some 56), .bin .eql 111 (.tmp 55) (.const (.int .i64 2)), none, false⟩])
 (.cond (.tmp 56)
 (.seq (.region false [⟨(some 57), .move (.tmp 0), none, false⟩,
 ⟨(some 58), .move (.tmp 1), none, false⟩,
 ⟨(some 59), .move (.tmp 2), none, false⟩,
 ⟨(some 60), .move (.tmp 4), none, false⟩,
 ⟨(some 61), .call (.func 55) [(.tmp 57), (.tmp 58), (.tmp 59), (.tmp 60)], none, false⟩])
 (.seq (.region false [⟨(some 62), .move (.tmp 2), none, false⟩,
 ⟨(some 63), .bin .sub 3 (.tmp 62) (.const (.int .i64 1)), none, false⟩,
 ⟨(some 64), .move (.tmp 13), none, false⟩,
 ⟨(some 65), .move (.tmp 1), none, false⟩,
 ⟨(some 66), .bin .sub 3 (.tmp 64) (.tmp 65), none, false⟩,
 ⟨(some 67), .bin .sub 3 (.tmp 63) (.tmp 66), none, false⟩,
 ⟨(some 13), .move (.tmp 67), none, false⟩])
 (.region false [⟨(some 14), .move (.const (.int .i64 1)), none, false⟩])))
 (.skip)))
 (.seq (.seq (.region false (⟨(some 68), .move (.tmp 10), none, false⟩ :: ⟨(some 69), .move (.tmp 68), none, false⟩ :: (ac36_G1 ++ (⟨(some 72), .move (.tmp 71), none, false⟩ :: (ac36_G2 ++ [])))))
 (.cond (.tmp 75)
 (.seq (.region false [⟨(some 76), .move (.tmp 0), none, false⟩,
 ⟨(some 77), .move (.tmp 1), none, false⟩,
 ⟨(some 78), .move (.tmp 2), none, false⟩,
 ⟨(some 79), .move (.tmp 4), none, false⟩,
 ⟨(some 80), .call (.func 56) [(.tmp 76), (.tmp 77), (.tmp 78), (.tmp 79)], none, false⟩])
 (.cond (.tmp 80)
 (.ret)
 (.skip)))
 (.skip)))
 (.seq (.seq (.region true (⟨(some 81), .move (.tmp 1), none, false⟩ :: ⟨(some 82), .bin .gtr 3 (.tmp 81) (.const (.int .i64 0)), none, false⟩ :: ⟨(some 83), .move (.tmp 82), none, false⟩ :: (ac36_G3 ++ [])))
 (.cond (.tmp 97)
 (.seq (.region false [⟨(some 98), .move (.tmp 0), none, false⟩,
 ⟨(some 99), .move (.tmp 1), none, false⟩,
 ⟨(some 100), .move (.tmp 2), none, false⟩,
 ⟨(some 101), .move (.tmp 13), none, false⟩,
 ⟨(some 102), .move (.tmp 4), none, false⟩,
 ⟨(some 103), .call (.func 57) [(.tmp 98), (.tmp 99), (.tmp 100), (.tmp 101), (.tmp 102)], none, false⟩,
 ⟨(some 15), .move (.tmp 103), none, false⟩])
 (.seq (.region false [⟨(some 104), .move (.tmp 15), none, false⟩,
 ⟨(some 1), .move (.tmp 104), none, false⟩])
 (.exit 1)))
 (.skip)))
 (.seq (.region false [⟨(some 106), .move (.tmp 0), none, false⟩,
 ⟨(some 107), .move (.tmp 1), none, false⟩,
 ⟨(some 108), .move (.tmp 2), none, false⟩,
 ⟨(some 109), .move (.tmp 13), none, false⟩,
 ⟨(some 110), .move (.tmp 4), none, false⟩,
 ⟨(some 111), .call (.func 58) [(.tmp 106), (.tmp 107), (.tmp 108), (.tmp 109), (.tmp 110)], none, false⟩,
 ⟨(some 105), .move (.tmp 111), none, false⟩,
 ⟨(some 112), .extract (.tmp 105) 0, none, false⟩,
 ⟨(some 113), .extract (.tmp 105) 1, none, false⟩,
 ⟨(some 16), .move (.tmp 112), none, false⟩,
 ⟨(some 17), .move (.tmp 113), none, false⟩])
 (.seq (.region false [⟨(some 114), .move (.tmp 17), none, false⟩,
 ⟨(some 11), .move (.tmp 114), none, false⟩])
 (.seq (.region false [⟨(some 115), .move (.tmp 16), none, false⟩,
 ⟨(some 116), .move (.tmp 1), none, false⟩,
 ⟨(some 117), .bin .sub 3 (.tmp 115) (.tmp 116), none, false⟩,
 ⟨(some 118), .move (.tmp 2), none, false⟩,
 ⟨(some 119), .move (.tmp 16), none, false⟩,
 ⟨(some 120), .bin .sub 3 (.tmp 118) (.tmp 119), none, false⟩,
 ⟨(some 18), .move (.tmp 117), none, false⟩,
 ⟨(some 19), .move (.tmp 120), none, false⟩])
 (.seq (.region false [⟨(some 121), .move (.tmp 12), none, false⟩,
 ⟨(some 122), .bin .quo 3 (.tmp 121) (.const (.int .i64 8)), none, false⟩,
 ⟨(some 20), .move (.tmp 122), none, false⟩])
 (.seq (.region false [⟨(some 123), .move (.tmp 18), none, false⟩,
 ⟨(some 124), .move (.tmp 19), none, false⟩,
 ⟨(some 125), .bin .lss 3 (.tmp 123) (.tmp 124), none, false⟩])
 (.cond (.tmp 125)
 (.seq (.region false [⟨(some 126), .move (.tmp 18), none, false⟩,
 ⟨(some 127), .move (.tmp 20), none, false⟩,
 ⟨(some 128), .bin .geq 3 (.tmp 126) (.tmp 127), none, false⟩,
 ⟨(some 10), .move (.tmp 128), none, false⟩])
 (.seq (.region false [⟨(some 129), .move (.tmp 0), none, false⟩,
 ⟨(some 130), .move (.tmp 1), none, false⟩,
 ⟨(some 131), .move (.tmp 16), none, false⟩,
 ⟨(some 132), .move (.tmp 3), none, false⟩,
 ⟨(some 133), .move (.tmp 4), none, false⟩,
 ⟨(some 134), .call (.func 36) [(.tmp 129), (.tmp 130), (.tmp 131), (.tmp 132), (.tmp 133)], none, false⟩])
 (.region false [⟨(some 135), .move (.tmp 16), none, false⟩,
 ⟨(some 136), .bin .add 3 (.tmp 135) (.const (.int .i64 1)), none, false⟩,
 ⟨(some 1), .move (.tmp 136), none, false⟩])))
 (.seq (.region false [⟨(some 137), .move (.tmp 19), none, false⟩,
 ⟨(some 138), .move (.tmp 20), none, false⟩,
 ⟨(some 139), .bin .geq 3 (.tmp 137) (.tmp 138), none, false⟩,
 ⟨(some 10), .move (.tmp 139), none, false⟩])
 (.seq (.region false [⟨(some 140), .move (.tmp 0), none, false⟩,
 ⟨(some 141), .move (.tmp 16), none, false⟩,
 ⟨(some 142), .bin .add 3 (.tmp 141) (.const (.int .i64 1)), none, false⟩,
 ⟨(some 143), .move (.tmp 2), none, false⟩,
 ⟨(some 144), .move (.tmp 3), none, false⟩,
 ⟨(some 145), .move (.tmp 4), none, false⟩,
 ⟨(some 146), .call (.func 36) [(.tmp 140), (.tmp 142), (.tmp 143), (.tmp 144), (.tmp 145)], none, false⟩])
 (.region false [⟨(some 147), .move (.tmp 16), none, false⟩,
 ⟨(some 2), .move (.tmp 147), none, false⟩])))))))))))))))))
/-- slices.pdqsortCmpFunc[patchbay/api.FieldRef] -/
def ac36 : AC :=
 .seq (.region false [⟨(some 10), .move (.const (.bool true)), none, false⟩])
 (.seq (.region false [⟨(some 11), .move (.const (.bool true)), none, false⟩])
 (.block 0 (.loop ac36_L1)))
theorem text36 : FnText Try.prog 36 [] 148 5 ac36 [] :=
 ⟨Try.call36, follows, Try.f36, _, Try.func36, rfl, rfl, by decide, by kernel_rfl, by kernel_rfl⟩

def ac51_G1 : List AOper :=
 [⟨(some 22), .move (.tmp 3), (some (21, true)), false⟩,
 ⟨(some 23), .move (.tmp 0), (some (21, true)), false⟩,
 ⟨(some 24), .move (.tmp 9), (some (21, true)), false⟩,
 ⟨(some 25), .iaddr 2 (.tmp 23) (.tmp 24), (some (21, true)), false⟩,
 ⟨(some 26), .load 2 true (.tmp 25), (some (21, true)), false⟩,
 ⟨(some 27), .move (.tmp 0), (some (21, true)), false⟩,
 ⟨(some 28), .move (.tmp 9), (some (21, true)), false⟩,
 ⟨(some 29), .bin .sub 3 (.tmp 28) (.const (.int .i64 1)), (some (21, true)), false⟩,
 ⟨(some 30), .iaddr 2 (.tmp 27) (.tmp 29), (some (21, true)), false⟩,
 ⟨(some 31), .load 2 true (.tmp 30), (some (21, true)), false⟩,
 ⟨(some 32), .call (.tmp 22) [(.tmp 26), (.tmp 31)], (some (21, true)), false⟩,
 ⟨(some 33), .bin .lss 3 (.tmp 32) (.const (.int .i64 0)), (some (21, true)), false⟩,
 ⟨(some 34), .pick (.tmp 21) (.tmp 33) (.const (.bool false)), none, false⟩]
def ac51_L2 : AC :=
 .seq (.seq (.region true (⟨(some 18), .move (.tmp 9), none, false⟩ :: ⟨(some 19), .move (.tmp 1), none, false⟩ :: ⟨(some 20), .bin .gtr 3 (.tmp 18) (.tmp 19), none, false⟩ :: ⟨(some 21), .move (.tmp 20), none, false⟩ :: (ac51_G1 ++ [])))
 (.cond (.tmp 34)
 (.skip)
 (.exit 2)))
 (.seq (.block 3 (.region true [⟨(some 37), .move (.tmp 0), none, false⟩,
 ⟨(some 38), .move (.tmp 9), none, false⟩,
 ⟨(some 39), .move (.tmp 0), none, true⟩,
 ⟨(some 40), .move (.tmp 9), none, true⟩,
 ⟨(some 41), .bin .sub 3 (.tmp 40) (.const (.int .i64 1)), none, true⟩,
 ⟨(some 42), .move (.tmp 0), none, false⟩,
 ⟨(some 43), .move (.tmp 9), none, false⟩,
 ⟨(some 44), .bin .sub 3 (.tmp 43) (.const (.int .i64 1)), none, false⟩,
 ⟨(some 45), .iaddr 2 (.tmp 42) (.tmp 44), none, false⟩,
 ⟨(some 46), .load 2 true (.tmp 45), none, false⟩,
 ⟨(some 47), .move (.tmp 0), none, false⟩,
 ⟨(some 48), .move (.tmp 9), none, false⟩,
 ⟨(some 49), .iaddr 2 (.tmp 47) (.tmp 48), none, false⟩,
 ⟨(some 50), .load 2 true (.tmp 49), none, false⟩,
 ⟨(some 51), .iaddr 2 (.tmp 37) (.tmp 38), none, false⟩,
 ⟨none, .store 2 (.tmp 51) (.tmp 46), none, false⟩,
 ⟨(some 52), .iaddr 2 (.tmp 39) (.tmp 41), none, false⟩,
 ⟨none, .store 2 (.tmp 52) (.tmp 50), none, false⟩]))
 (.region false [⟨(some 35), .move (.tmp 9), none, false⟩,
 ⟨(some 36), .bin .sub 3 (.tmp 35) (.const (.int .i64 1)), none, false⟩,
 ⟨(some 9), .move (.tmp 36), none, false⟩]))
def ac51_L1 : AC :=
 .seq (.seq (.region false [⟨(some 12), .move (.tmp 8), none, false⟩,
 ⟨(some 13), .move (.tmp 2), none, false⟩,
 ⟨(some 14), .bin .lss 3 (.tmp 12) (.tmp 13), none, false⟩])
 (.cond (.tmp 14)
 (.skip)
 (.exit 0)))
 (.seq (.block 1 (.seq (.region false [⟨(some 17), .move (.tmp 8), none, false⟩,
 ⟨(some 9), .move (.tmp 17), none, false⟩])
 (.block 2 (.loop ac51_L2))))
 (.region false [⟨(some 15), .move (.tmp 8), none, false⟩,
 ⟨(some 16), .bin .add 3 (.tmp 15) (.const (.int .i64 1)), none, false⟩,
 ⟨(some 8), .move (.tmp 16), none, false⟩]))
/-- slices.insertionSortCmpFunc[patchbay/api.FieldRef] -/
def ac51 : AC :=
 .seq (.region false [⟨(some 10), .move (.tmp 1), none, false⟩,
 ⟨(some 11), .bin .add 3 (.tmp 10) (.const (.int .i64 1)), none, false⟩,
 ⟨(some 8), .move (.tmp 11), none, false⟩])
 (.block 0 (.loop ac51_L1))
theorem text51 : FnText Try.prog 51 [] 53 4 ac51 [] :=
 ⟨Try.call51, follows, Try.f51, _, Try.func51, rfl, rfl, by decide, by kernel_rfl, by kernel_rfl⟩

def ac52_L1 : AC :=
 .seq (.seq (.region false [⟨(some 20), .move (.tmp 11), none, false⟩,
 ⟨(some 21), .bin .geq 3 (.tmp 20) (.const (.int .i64 0)), none, false⟩])
 (.cond (.tmp 21)
 (.skip)
 (.exit 0)))
 (.seq (.block 1 (.region false [⟨(some 24), .move (.tmp 0), none, false⟩,
 ⟨(some 25), .move (.tmp 11), none, false⟩,
 ⟨(some 26), .move (.tmp 10), none, false⟩,
 ⟨(some 27), .move (.tmp 8), none, false⟩,
 ⟨(some 28), .move (.tmp 3), none, false⟩,
 ⟨(some 29), .call (.func 71) [(.tmp 24), (.tmp 25), (.tmp 26), (.tmp 27), (.tmp 28)], none, false⟩]))
 (.region false [⟨(some 22), .move (.tmp 11), none, false⟩,
 ⟨(some 23), .bin .sub 3 (.tmp 22) (.const (.int .i64 1)), none, false⟩,
 ⟨(some 11), .move (.tmp 23), none, false⟩]))
def ac52_L2 : AC :=
 .seq (.seq (.region false [⟨(some 32), .move (.tmp 12), none, false⟩,
 ⟨(some 33), .bin .geq 3 (.tmp 32) (.const (.int .i64 0)), none, false⟩])
 (.cond (.tmp 33)
 (.skip)
 (.exit 2)))
 (.seq (.block 3 (.seq (.region true [⟨(some 36), .move (.tmp 0), none, false⟩,
 ⟨(some 37), .move (.tmp 8), none, false⟩,
 ⟨(some 38), .move (.tmp 0), none, true⟩,
 ⟨(some 39), .move (.tmp 8), none, true⟩,
 ⟨(some 40), .move (.tmp 12), none, true⟩,
 ⟨(some 41), .bin .add 3 (.tmp 39) (.tmp 40), none, true⟩,
 ⟨(some 42), .move (.tmp 0), none, false⟩,
 ⟨(some 43), .move (.tmp 8), none, false⟩,
 ⟨(some 44), .move (.tmp 12), none, false⟩,
 ⟨(some 45), .bin .add 3 (.tmp 43) (.tmp 44), none, false⟩,
 ⟨(some 46), .iaddr 2 (.tmp 42) (.tmp 45), none, false⟩,
 ⟨(some 47), .load 2 true (.tmp 46), none, false⟩,
 ⟨(some 48), .move (.tmp 0), none, false⟩,
 ⟨(some 49), .move (.tmp 8), none, false⟩,
 ⟨(some 50), .iaddr 2 (.tmp 48) (.tmp 49), none, false⟩,
 ⟨(some 51), .load 2 true (.tmp 50), none, false⟩,
 ⟨(some 52), .iaddr 2 (.tmp 36) (.tmp 37), none, false⟩,
 ⟨none, .store 2 (.tmp 52) (.tmp 47), none, false⟩,
 ⟨(some 53), .iaddr 2 (.tmp 38) (.tmp 41), none, false⟩,
 ⟨none, .store 2 (.tmp 53) (.tmp 51), none, false⟩])
 (.region false [⟨(some 54), .move (.tmp 0), none, false⟩,
 ⟨(some 55), .move (.tmp 9), none, false⟩,
 ⟨(some 56), .move (.tmp 12), none, false⟩,
 ⟨(some 57), .move (.tmp 8), none, false⟩,
 ⟨(some 58), .move (.tmp 3), none, false⟩,
 ⟨(some 59), .call (.func 71) [(.tmp 54), (.tmp 55), (.tmp 56), (.tmp 57), (.tmp 58)], none, false⟩])))
 (.region false [⟨(some 34), .move (.tmp 12), none, false⟩,
 ⟨(some 35), .bin .sub 3 (.tmp 34) (.const (.int .i64 1)), none, false⟩,
 ⟨(some 12), .move (.tmp 35), none, false⟩]))
/-- slices.heapSortCmpFunc[patchbay/api.FieldRef] -/
def ac52 : AC :=
 .seq (.region false [⟨(some 13), .move (.tmp 1), none, false⟩,
 ⟨(some 8), .move (.tmp 13), none, false⟩])
 (.seq (.region false [⟨(some 9), .move (.const (.int .i64 0)), none, false⟩])
 (.seq (.region false [⟨(some 14), .move (.tmp 2), none, false⟩,
 ⟨(some 15), .move (.tmp 1), none, false⟩,
 ⟨(some 16), .bin .sub 3 (.tmp 14) (.tmp 15), none, false⟩,
 ⟨(some 10), .move (.tmp 16), none, false⟩])
 (.seq (.seq (.region false [⟨(some 17), .move (.tmp 10), none, false⟩,
 ⟨(some 18), .bin .sub 3 (.tmp 17) (.const (.int .i64 1)), none, false⟩,
 ⟨(some 19), .bin .quo 3 (.tmp 18) (.const (.int .i64 2)), none, false⟩,
 ⟨(some 11), .move (.tmp 19), none, false⟩])
 (.block 0 (.loop ac52_L1)))
 (.seq (.region false [⟨(some 30), .move (.tmp 10), none, false⟩,
 ⟨(some 31), .bin .sub 3 (.tmp 30) (.const (.int .i64 1)), none, false⟩,
 ⟨(some 12), .move (.tmp 31), none, false⟩])
 (.block 2 (.loop ac52_L2))))))
theorem text52 : FnText Try.prog 52 [] 60 4 ac52 [] :=
 ⟨Try.call52, follows, Try.f52, _, Try.func52, rfl, rfl, by decide, by kernel_rfl, by kernel_rfl⟩

def ac71_G1 : List AOper :=
 [⟨(some 24), .move (.tmp 4), (some (23, true)), false⟩,
 ⟨(some 25), .move (.tmp 0), (some (23, true)), false⟩,
 ⟨(some 26), .move (.tmp 3), (some (23, true)), false⟩,
 ⟨(some 27), .move (.tmp 11), (some (23, true)), false⟩,
 ⟨(some 28), .bin .add 3 (.tmp 26) (.tmp 27), (some (23, true)), false⟩,
 ⟨(some 29), .iaddr 2 (.tmp 25) (.tmp 28), (some (23, true)), false⟩,
 ⟨(some 30), .load 2 true (.tmp 29), (some (23, true)), false⟩,
 ⟨(some 31), .move (.tmp 0), (some (23, true)), false⟩,
 ⟨(some 32), .move (.tmp 3), (some (23, true)), false⟩,
 ⟨(some 33), .move (.tmp 11), (some (23, true)), false⟩,
 ⟨(some 34), .bin .add 3 (.tmp 32) (.tmp 33), (some (23, true)), false⟩,
 ⟨(some 35), .bin .add 3 (.tmp 34) (.const (.int .i64 1)), (some (23, true)), false⟩,
 ⟨(some 36), .iaddr 2 (.tmp 31) (.tmp 35), (some (23, true)), false⟩,
 ⟨(some 37), .load 2 true (.tmp 36), (some (23, true)), false⟩,
 ⟨(some 38), .call (.tmp 24) [(.tmp 30), (.tmp 37)], (some (23, true)), false⟩,
 ⟨(some 39), .bin .lss 3 (.tmp 38) (.const (.int .i64 0)), (some (23, true)), false⟩,
 ⟨(some 40), .pick (.tmp 23) (.tmp 39) (.const (.bool false)), none, false⟩]
def ac71_L1 : AC :=
 .block 1 (.seq (.region false [⟨(some 13), .move (.tmp 10), none, false⟩,
 ⟨(some 14), .bin .mul 3 (.const (.int .i64 2)) (.tmp 13), none, false⟩,
 ⟨(some 15), .bin .add 3 (.tmp 14) (.const (.int .i64 1)), none, false⟩,
 ⟨(some 11), .move (.tmp 15), none, false⟩])
 (.seq (.seq (.region false [⟨(some 16), .move (.tmp 11), none, false⟩,
 ⟨(some 17), .move (.tmp 2), none, false⟩,
 ⟨(some 18), .bin .geq 3 (.tmp 16) (.tmp 17), none, false⟩])
 (.cond (.tmp 18)
 (.exit 0)
 (.skip)))
 (.seq (.seq (.region true (⟨(some 19), .move (.tmp 11), none, false⟩ :: ⟨(some 20), .bin .add 3 (.tmp 19) (.const (.int .i64 1)), none, false⟩ :: ⟨(some 21), .move (.tmp 2), none, false⟩ :: ⟨(some 22), .bin .lss 3 (.tmp 20) (.tmp 21), none, false⟩ :: ⟨(some 23), .move (.tmp 22), none, false⟩ :: (ac71_G1 ++ [])))
 (.cond (.tmp 40)
 (.region false [⟨(some 41), .move (.tmp 11), none, false⟩,
 ⟨(some 42), .bin .add 3 (.tmp 41) (.const (.int .i64 1)), none, false⟩,
 ⟨(some 11), .move (.tmp 42), none, false⟩])
 (.skip)))
 (.seq (.seq (.region true [⟨(some 43), .move (.tmp 4), none, false⟩,
 ⟨(some 44), .move (.tmp 0), none, false⟩,
 ⟨(some 45), .move (.tmp 3), none, false⟩,
 ⟨(some 46), .move (.tmp 10), none, false⟩,
 ⟨(some 47), .bin .add 3 (.tmp 45) (.tmp 46), none, false⟩,
 ⟨(some 48), .iaddr 2 (.tmp 44) (.tmp 47), none, false⟩,
 ⟨(some 49), .load 2 true (.tmp 48), none, false⟩,
 ⟨(some 50), .move (.tmp 0), none, false⟩,
 ⟨(some 51), .move (.tmp 3), none, false⟩,
 ⟨(some 52), .move (.tmp 11), none, false⟩,
 ⟨(some 53), .bin .add 3 (.tmp 51) (.tmp 52), none, false⟩,
 ⟨(some 54), .iaddr 2 (.tmp 50) (.tmp 53), none, false⟩,
 ⟨(some 55), .load 2 true (.tmp 54), none, false⟩,
 ⟨(some 56), .call (.tmp 43) [(.tmp 49), (.tmp 55)], none, false⟩,
 ⟨(some 57), .bin .lss 3 (.tmp 56) (.const (.int .i64 0)), none, false⟩,
 ⟨(some 58), .un .not (.tmp 57), none, false⟩])
 (.cond (.tmp 58)
 (.ret)
 (.skip)))
 (.seq (.region true [⟨(some 59), .move (.tmp 0), none, false⟩,
 ⟨(some 60), .move (.tmp 3), none, false⟩,
 ⟨(some 61), .move (.tmp 10), none, false⟩,
 ⟨(some 62), .bin .add 3 (.tmp 60) (.tmp 61), none, false⟩,
 ⟨(some 63), .move (.tmp 0), none, true⟩,
 ⟨(some 64), .move (.tmp 3), none, true⟩,
 ⟨(some 65), .move (.tmp 11), none, true⟩,
 ⟨(some 66), .bin .add 3 (.tmp 64) (.tmp 65), none, true⟩,
 ⟨(some 67), .move (.tmp 0), none, false⟩,
 ⟨(some 68), .move (.tmp 3), none, false⟩,
 ⟨(some 69), .move (.tmp 11), none, false⟩,
 ⟨(some 70), .bin .add 3 (.tmp 68) (.tmp 69), none, false⟩,
 ⟨(some 71), .iaddr 2 (.tmp 67) (.tmp 70), none, false⟩,
 ⟨(some 72), .load 2 true (.tmp 71), none, false⟩,
 ⟨(some 73), .move (.tmp 0), none, false⟩,
 ⟨(some 74), .move (.tmp 3), none, false⟩,
 ⟨(some 75), .move (.tmp 10), none, false⟩,
 ⟨(some 76), .bin .add 3 (.tmp 74) (.tmp 75), none, false⟩,
 ⟨(some 77), .iaddr 2 (.tmp 73) (.tmp 76), none, false⟩,
 ⟨(some 78), .load 2 true (.tmp 77), none, false⟩,
 ⟨(some 79), .iaddr 2 (.tmp 59) (.tmp 62), none, false⟩,
 ⟨none, .store 2 (.tmp 79) (.tmp 72), none, false⟩,
 ⟨(some 80), .iaddr 2 (.tmp 63) (.tmp 66), none, false⟩,
 ⟨none, .store 2 (.tmp 80) (.tmp 78), none, false⟩])
 (.region false [⟨(some 81), .move (.tmp 11), none, false⟩,
 ⟨(some 10), .move (.tmp 81), none, false⟩]))))))
/-- slices.siftDownCmpFunc[patchbay/api.FieldRef] -/
def ac71 : AC :=
 .seq (.region false [⟨(some 12), .move (.tmp 1), none, false⟩,
 ⟨(some 10), .move (.tmp 12), none, false⟩])
 (.block 0 (.loop ac71_L1))
theorem text71 : FnText Try.prog 71 [] 82 5 ac71 [] :=
 ⟨Try.call71, follows, Try.f71, _, Try.func71, rfl, rfl, by decide, by kernel_rfl, by kernel_rfl⟩

def ac53_L1 : AC :=
 .seq (.seq (.region false [⟨(some 28), .move (.tmp 11), none, false⟩,
 ⟨(some 29), .move (.tmp 1), none, false⟩,
 ⟨(some 30), .move (.tmp 8), none, false⟩,
 ⟨(some 31), .bin .quo 3 (.tmp 30) (.const (.int .i64 4)), none, false⟩,
 ⟨(some 32), .bin .mul 3 (.tmp 31) (.const (.int .i64 2)), none, false⟩,
 ⟨(some 33), .bin .add 3 (.tmp 29) (.tmp 32), none, false⟩,
 ⟨(some 34), .bin .add 3 (.tmp 33) (.const (.int .i64 1)), none, false⟩,
 ⟨(some 35), .bin .leq 3 (.tmp 28) (.tmp 34), none, false⟩])
 (.cond (.tmp 35)
 (.skip)
 (.exit 0)))
 (.seq (.block 1 (.seq (.region false [⟨(some 38), .call (.func 73) [(.tmp 9)], none, false⟩,
 ⟨(some 39), .move (.tmp 10), none, false⟩,
 ⟨(some 40), .bin .sub 97 (.tmp 39) (.const (.int .u64 1)), none, false⟩,
 ⟨(some 41), .bin .and 97 (.tmp 38) (.tmp 40), none, false⟩,
 ⟨(some 42), .conv 97 3 (.tmp 41), none, false⟩,
 ⟨(some 12), .move (.tmp 42), none, false⟩])
 (.seq (.seq (.region false [⟨(some 43), .move (.tmp 12), none, false⟩,
 ⟨(some 44), .move (.tmp 8), none, false⟩,
 ⟨(some 45), .bin .geq 3 (.tmp 43) (.tmp 44), none, false⟩])
 (.cond (.tmp 45)
 (.region false [⟨(some 46), .move (.tmp 12), none, false⟩,
 ⟨(some 47), .move (.tmp 8), none, false⟩,
 ⟨(some 48), .bin .sub 3 (.tmp 46) (.tmp 47), none, false⟩,
 ⟨(some 12), .move (.tmp 48), none, false⟩])
 (.skip)))
 (.region true [⟨(some 49), .move (.tmp 0), none, false⟩,
 ⟨(some 50), .move (.tmp 11), none, false⟩,
 ⟨(some 51), .move (.tmp 0), none, true⟩,
 ⟨(some 52), .move (.tmp 1), none, true⟩,
 ⟨(some 53), .move (.tmp 12), none, true⟩,
 ⟨(some 54), .bin .add 3 (.tmp 52) (.tmp 53), none, true⟩,
 ⟨(some 55), .move (.tmp 0), none, false⟩,
 ⟨(some 56), .move (.tmp 1), none, false⟩,
 ⟨(some 57), .move (.tmp 12), none, false⟩,
 ⟨(some 58), .bin .add 3 (.tmp 56) (.tmp 57), none, false⟩,
 ⟨(some 59), .iaddr 2 (.tmp 55) (.tmp 58), none, false⟩,
 ⟨(some 60), .load 2 true (.tmp 59), none, false⟩,
 ⟨(some 61), .move (.tmp 0), none, false⟩,
 ⟨(some 62), .move (.tmp 11), none, false⟩,
 ⟨(some 63), .iaddr 2 (.tmp 61) (.tmp 62), none, false⟩,
 ⟨(some 64), .load 2 true (.tmp 63), none, false⟩,
 ⟨(some 65), .iaddr 2 (.tmp 49) (.tmp 50), none, false⟩,
 ⟨none, .store 2 (.tmp 65) (.tmp 60), none, false⟩,
 ⟨(some 66), .iaddr 2 (.tmp 51) (.tmp 54), none, false⟩,
 ⟨none, .store 2 (.tmp 66) (.tmp 64), none, false⟩]))))
 (.region false [⟨(some 36), .move (.tmp 11), none, false⟩,
 ⟨(some 37), .bin .add 3 (.tmp 36) (.const (.int .i64 1)), none, false⟩,
 ⟨(some 11), .move (.tmp 37), none, false⟩]))
/-- slices.breakPatternsCmpFunc[patchbay/api.FieldRef] -/
def ac53 : AC :=
 .seq (.region false [⟨(some 13), .move (.tmp 2), none, false⟩,
 ⟨(some 14), .move (.tmp 1), none, false⟩,
 ⟨(some 15), .bin .sub 3 (.tmp 13) (.tmp 14), none, false⟩,
 ⟨(some 8), .move (.tmp 15), none, false⟩])
 (.seq (.region false [⟨(some 16), .move (.tmp 8), none, false⟩,
 ⟨(some 17), .bin .geq 3 (.tmp 16) (.const (.int .i64 8)), none, false⟩])
 (.cond (.tmp 17)
 (.seq (.region false [⟨(some 18), .move (.tmp 8), none, false⟩,
 ⟨(some 19), .conv 3 129 (.tmp 18), none, false⟩,
 ⟨(some 9), .alloc true 129 (.int .u64 0), none, false⟩,
 ⟨none, .store 1 (.tmp 9) (.tmp 19), none, false⟩])
 (.seq (.region false [⟨(some 20), .move (.tmp 8), none, false⟩,
 ⟨(some 21), .call (.func 72) [(.tmp 20)], none, false⟩,
 ⟨(some 10), .move (.tmp 21), none, false⟩])
 (.seq (.region false [⟨(some 22), .move (.tmp 1), none, false⟩,
 ⟨(some 23), .move (.tmp 8), none, false⟩,
 ⟨(some 24), .bin .quo 3 (.tmp 23) (.const (.int .i64 4)), none, false⟩,
 ⟨(some 25), .bin .mul 3 (.tmp 24) (.const (.int .i64 2)), none, false⟩,
 ⟨(some 26), .bin .add 3 (.tmp 22) (.tmp 25), none, false⟩,
 ⟨(some 27), .bin .sub 3 (.tmp 26) (.const (.int .i64 1)), none, false⟩,
 ⟨(some 11), .move (.tmp 27), none, false⟩])
 (.block 0 (.loop ac53_L1)))))
 (.skip)))
theorem text53 : FnText Try.prog 53 [9] 67 4 ac53 [] :=
 ⟨Try.call53, follows, Try.f53, _, Try.func53, rfl, rfl, by decide, by kernel_rfl, by kernel_rfl⟩


/-- slices.nextPowerOfTwo -/
def ac72 : AC :=
 .seq (.region false [⟨(some 2), .move (.const (.int .u64 0)), none, false⟩])
 (.seq (.region false [⟨(some 3), .move (.tmp 0), none, false⟩,
 ⟨(some 4), .conv 3 97 (.tmp 3), none, false⟩,
 ⟨(some 5), .call (.func 37) [(.tmp 4)], none, false⟩,
 ⟨(some 6), .bin .shl 97 (.const (.int .u64 1)) (.tmp 5), none, false⟩,
 ⟨(some 2), .move (.tmp 6), none, false⟩])
 (.ret))
theorem text72 : FnText Try.prog 72 [] 7 1 ac72 [(2, none)] :=
 ⟨Try.call72, follows, Try.f72, _, Try.func72, rfl, rfl, by decide, by kernel_rfl, by kernel_rfl⟩


/-- (*slices.xorshift).Next -/
def ac73 : AC :=
 .seq (.region false [⟨(some 2), .move (.const (.int .u64 0)), none, false⟩])
 (.seq (.region true [⟨(some 3), .move (.tmp 0), none, false⟩,
 ⟨(some 4), .nilCheck (.tmp 3), none, false⟩,
 ⟨(some 5), .load 1 false (.tmp 4), none, false⟩,
 ⟨(some 6), .move (.tmp 0), none, false⟩,
 ⟨(some 7), .nilCheck (.tmp 6), none, false⟩,
 ⟨(some 8), .load 1 false (.tmp 7), none, false⟩,
 ⟨(some 9), .bin .shl 129 (.tmp 8) (.const (.int .u64 13)), none, false⟩,
 ⟨(some 10), .bin .xor 129 (.tmp 5) (.tmp 9), none, false⟩,
 ⟨(some 11), .nilCheck (.tmp 3), none, false⟩,
 ⟨none, .store 1 (.tmp 11) (.tmp 10), none, false⟩])
 (.seq (.region true [⟨(some 12), .move (.tmp 0), none, false⟩,
 ⟨(some 13), .nilCheck (.tmp 12), none, false⟩,
 ⟨(some 14), .load 1 false (.tmp 13), none, false⟩,
 ⟨(some 15), .move (.tmp 0), none, false⟩,
 ⟨(some 16), .nilCheck (.tmp 15), none, false⟩,
 ⟨(some 17), .load 1 false (.tmp 16), none, false⟩,
 ⟨(some 18), .bin .shr 129 (.tmp 17) (.const (.int .u64 7)), none, false⟩,
 ⟨(some 19), .bin .xor 129 (.tmp 14) (.tmp 18), none, false⟩,
 ⟨(some 20), .nilCheck (.tmp 12), none, false⟩,
 ⟨none, .store 1 (.tmp 20) (.tmp 19), none, false⟩])
 (.seq (.region true [⟨(some 21), .move (.tmp 0), none, false⟩,
 ⟨(some 22), .nilCheck (.tmp 21), none, false⟩,
 ⟨(some 23), .load 1 false (.tmp 22), none, false⟩,
 ⟨(some 24), .move (.tmp 0), none, false⟩,
 ⟨(some 25), .nilCheck (.tmp 24), none, false⟩,
 ⟨(some 26), .load 1 false (.tmp 25), none, false⟩,
 ⟨(some 27), .bin .shl 129 (.tmp 26) (.const (.int .u64 17)), none, false⟩,
 ⟨(some 28), .bin .xor 129 (.tmp 23) (.tmp 27), none, false⟩,
 ⟨(some 29), .nilCheck (.tmp 21), none, false⟩,
 ⟨none, .store 1 (.tmp 29) (.tmp 28), none, false⟩])
 (.seq (.region false [⟨(some 30), .move (.tmp 0), none, false⟩,
 ⟨(some 31), .nilCheck (.tmp 30), none, false⟩,
 ⟨(some 32), .load 1 false (.tmp 31), none, false⟩,
 ⟨(some 2), .move (.tmp 32), none, false⟩])
 (.ret)))))
theorem text73 : FnText Try.prog 73 [] 33 1 ac73 [(2, none)] :=
 ⟨Try.call73, follows, Try.f73, _, Try.func73, rfl, rfl, by decide, by kernel_rfl, by kernel_rfl⟩


/-- slices.choosePivotCmpFunc[patchbay/api.FieldRef] -/
def ac54 : AC :=
 .seq (.region false [⟨(some 8), .move (.const (.int .i64 0)), none, false⟩,
 ⟨(some 9), .move (.const (.int .i64 0)), none, false⟩])
 (.seq (.region false [⟨(some 15), .move (.tmp 2), none, false⟩,
 ⟨(some 16), .move (.tmp 1), none, false⟩,
 ⟨(some 17), .bin .sub 3 (.tmp 15) (.tmp 16), none, false⟩,
 ⟨(some 10), .move (.tmp 17), none, false⟩])
 (.seq (.region false [⟨(some 11), .alloc true 3 (.int .i64 0), none, false⟩])
 (.seq (.region false [⟨(some 18), .move (.tmp 1), none, false⟩,
 ⟨(some 19), .move (.tmp 10), none, false⟩,
 ⟨(some 20), .bin .quo 3 (.tmp 19) (.const (.int .i64 4)), none, false⟩,
 ⟨(some 21), .bin .mul 3 (.tmp 20) (.const (.int .i64 1)), none, false⟩,
 ⟨(some 22), .bin .add 3 (.tmp 18) (.tmp 21), none, false⟩,
 ⟨(some 12), .move (.tmp 22), none, false⟩])
 (.seq (.region false [⟨(some 23), .move (.tmp 1), none, false⟩,
 ⟨(some 24), .move (.tmp 10), none, false⟩,
 ⟨(some 25), .bin .quo 3 (.tmp 24) (.const (.int .i64 4)), none, false⟩,
 ⟨(some 26), .bin .mul 3 (.tmp 25) (.const (.int .i64 2)), none, false⟩,
 ⟨(some 27), .bin .add 3 (.tmp 23) (.tmp 26), none, false⟩,
 ⟨(some 13), .move (.tmp 27), none, false⟩])
 (.seq (.region false [⟨(some 28), .move (.tmp 1), none, false⟩,
 ⟨(some 29), .move (.tmp 10), none, false⟩,
 ⟨(some 30), .bin .quo 3 (.tmp 29) (.const (.int .i64 4)), none, false⟩,
 ⟨(some 31), .bin .mul 3 (.tmp 30) (.const (.int .i64 3)), none, false⟩,
 ⟨(some 32), .bin .add 3 (.tmp 28) (.tmp 31), none, false⟩,
 ⟨(some 14), .move (.tmp 32), none, false⟩])
 (.seq (.seq (.region false [⟨(some 33), .move (.tmp 10), none, false⟩,
 ⟨(some 34), .bin .geq 3 (.tmp 33) (.const (.int .i64 8)), none, false⟩])
 (.cond (.tmp 34)
 (.seq (.seq (.region false [⟨(some 35), .move (.tmp 10), none, false⟩,
 ⟨(some 36), .bin .geq 3 (.tmp 35) (.const (.int .i64 50)), none, false⟩])
 (.cond (.tmp 36)
 (.seq (.region false [⟨(some 37), .move (.tmp 0), none, false⟩,
 ⟨(some 38), .move (.tmp 12), none, false⟩,
 ⟨(some 39), .move (.tmp 3), none, false⟩,
 ⟨(some 40), .call (.func 74) [(.tmp 37), (.tmp 38), (.tmp 11), (.tmp 39)], none, false⟩,
 ⟨(some 12), .move (.tmp 40), none, false⟩])
 (.seq (.region false [⟨(some 41), .move (.tmp 0), none, false⟩,
 ⟨(some 42), .move (.tmp 13), none, false⟩,
 ⟨(some 43), .move (.tmp 3), none, false⟩,
 ⟨(some 44), .call (.func 74) [(.tmp 41), (.tmp 42), (.tmp 11), (.tmp 43)], none, false⟩,
 ⟨(some 13), .move (.tmp 44), none, false⟩])
 (.region false [⟨(some 45), .move (.tmp 0), none, false⟩,
 ⟨(some 46), .move (.tmp 14), none, false⟩,
 ⟨(some 47), .move (.tmp 3), none, false⟩,
 ⟨(some 48), .call (.func 74) [(.tmp 45), (.tmp 46), (.tmp 11), (.tmp 47)], none, false⟩,
 ⟨(some 14), .move (.tmp 48), none, false⟩])))
 (.skip)))
 (.region false [⟨(some 49), .move (.tmp 0), none, false⟩,
 ⟨(some 50), .move (.tmp 12), none, false⟩,
 ⟨(some 51), .move (.tmp 13), none, false⟩,
 ⟨(some 52), .move (.tmp 14), none, false⟩,
 ⟨(some 53), .move (.tmp 3), none, false⟩,
 ⟨(some 54), .call (.func 75) [(.tmp 49), (.tmp 50), (.tmp 51), (.tmp 52), (.tmp 11), (.tmp 53)], none, false⟩,
 ⟨(some 13), .move (.tmp 54), none, false⟩]))
 (.skip)))
 (.seq (.region false [⟨(some 55), .load 1 false (.tmp 11), none, false⟩])
 (.block 0 (.seq (.region false [⟨(some 58), .bin .eql 3 (.tmp 55) (.const (.int .i64 0)), none, false⟩,
 ⟨(some 57), .move (.tmp 58), none, false⟩])
 (.cond (.tmp 57)
 (.seq (.region false [⟨(some 59), .move (.tmp 13), none, false⟩,
 ⟨(some 8), .move (.tmp 59), none, false⟩,
 ⟨(some 9), .move (.const (.int .i64 1)), none, false⟩])
 (.ret))
 (.seq (.region false [⟨(some 61), .bin .eql 3 (.tmp 55) (.const (.int .i64 12)), none, false⟩,
 ⟨(some 60), .move (.tmp 61), none, false⟩])
 (.cond (.tmp 60)
 (.seq (.region false [⟨(some 62), .move (.tmp 13), none, false⟩,
 ⟨(some 8), .move (.tmp 62), none, false⟩,
 ⟨(some 9), .move (.const (.int .i64 2)), none, false⟩])
 (.ret))
 (.seq (.region false [⟨(some 56), .move (.tmp 13), none, false⟩,
 ⟨(some 8), .move (.tmp 56), none, false⟩,
 ⟨(some 9), .move (.const (.int .i64 0)), none, false⟩])
 (.ret))))))))))))))
theorem text54 : FnText Try.prog 54 [11] 63 4 ac54 [(8, none), (9, none)] :=
 ⟨Try.call54, follows, Try.f54, _, Try.func54, rfl, rfl, by decide, by kernel_rfl, by kernel_rfl⟩


/-- slices.medianAdjacentCmpFunc[patchbay/api.FieldRef] -/
def ac74 : AC :=
 .seq (.region false [⟨(some 8), .move (.const (.int .i64 0)), none, false⟩])
 (.seq (.region false [⟨(some 9), .move (.tmp 0), none, false⟩,
 ⟨(some 10), .move (.tmp 1), none, false⟩,
 ⟨(some 11), .bin .sub 3 (.tmp 10) (.const (.int .i64 1)), none, false⟩,
 ⟨(some 12), .move (.tmp 1), none, false⟩,
 ⟨(some 13), .move (.tmp 1), none, false⟩,
 ⟨(some 14), .bin .add 3 (.tmp 13) (.const (.int .i64 1)), none, false⟩,
 ⟨(some 15), .move (.tmp 2), none, false⟩,
 ⟨(some 16), .move (.tmp 3), none, false⟩,
 ⟨(some 17), .call (.func 75) [(.tmp 9), (.tmp 11), (.tmp 12), (.tmp 14), (.tmp 15), (.tmp 16)], none, false⟩,
 ⟨(some 8), .move (.tmp 17), none, false⟩])
 (.ret))
theorem text74 : FnText Try.prog 74 [] 18 4 ac74 [(8, none)] :=
 ⟨Try.call74, follows, Try.f74, _, Try.func74, rfl, rfl, by decide, by kernel_rfl, by kernel_rfl⟩


/-- slices.medianCmpFunc[patchbay/api.FieldRef] -/
def ac75 : AC :=
 .seq (.region false [⟨(some 12), .move (.const (.int .i64 0)), none, false⟩])
 (.seq (.region false [⟨(some 14), .move (.tmp 0), none, false⟩,
 ⟨(some 15), .move (.tmp 1), none, false⟩,
 ⟨(some 16), .move (.tmp 2), none, false⟩,
 ⟨(some 17), .move (.tmp 4), none, false⟩,
 ⟨(some 18), .move (.tmp 5), none, false⟩,
 ⟨(some 19), .call (.func 82) [(.tmp 14), (.tmp 15), (.tmp 16), (.tmp 17), (.tmp 18)], none, false⟩,
 ⟨(some 13), .move (.tmp 19), none, false⟩,
 ⟨(some 20), .extract (.tmp 13) 0, none, false⟩,
 ⟨(some 21), .extract (.tmp 13) 1, none, false⟩,
 ⟨(some 1), .move (.tmp 20), none, false⟩,
 ⟨(some 2), .move (.tmp 21), none, false⟩])
 (.seq (.region false [⟨(some 23), .move (.tmp 0), none, false⟩,
 ⟨(some 24), .move (.tmp 2), none, false⟩,
 ⟨(some 25), .move (.tmp 3), none, false⟩,
 ⟨(some 26), .move (.tmp 4), none, false⟩,
 ⟨(some 27), .move (.tmp 5), none, false⟩,
 ⟨(some 28), .call (.func 82) [(.tmp 23), (.tmp 24), (.tmp 25), (.tmp 26), (.tmp 27)], none, false⟩,
 ⟨(some 22), .move (.tmp 28), none, false⟩,
 ⟨(some 29), .extract (.tmp 22) 0, none, false⟩,
 ⟨(some 30), .extract (.tmp 22) 1, none, false⟩,
 ⟨(some 2), .move (.tmp 29), none, false⟩,
 ⟨(some 3), .move (.tmp 30), none, false⟩])
 (.seq (.region false [⟨(some 32), .move (.tmp 0), none, false⟩,
 ⟨(some 33), .move (.tmp 1), none, false⟩,
 ⟨(some 34), .move (.tmp 2), none, false⟩,
 ⟨(some 35), .move (.tmp 4), none, false⟩,
 ⟨(some 36), .move (.tmp 5), none, false⟩,
 ⟨(some 37), .call (.func 82) [(.tmp 32), (.tmp 33), (.tmp 34), (.tmp 35), (.tmp 36)], none, false⟩,
 ⟨(some 31), .move (.tmp 37), none, false⟩,
 ⟨(some 38), .extract (.tmp 31) 0, none, false⟩,
 ⟨(some 39), .extract (.tmp 31) 1, none, false⟩,
 ⟨(some 1), .move (.tmp 38), none, false⟩,
 ⟨(some 2), .move (.tmp 39), none, false⟩])
 (.seq (.region false [⟨(some 40), .move (.tmp 2), none, false⟩,
 ⟨(some 12), .move (.tmp 40), none, false⟩])
 (.ret)))))
theorem text75 : FnText Try.prog 75 [] 41 6 ac75 [(12, none)] :=
 ⟨Try.call75, follows, Try.f75, _, Try.func75, rfl, rfl, by decide, by kernel_rfl, by kernel_rfl⟩


/-- slices.order2CmpFunc[patchbay/api.FieldRef] -/
def ac82 : AC :=
 .seq (.region false [⟨(some 10), .move (.const (.int .i64 0)), none, false⟩,
 ⟨(some 11), .move (.const (.int .i64 0)), none, false⟩])
 (.seq (.seq (.region true [⟨(some 12), .move (.tmp 4), none, false⟩,
 ⟨(some 13), .move (.tmp 0), none, false⟩,
 ⟨(some 14), .move (.tmp 2), none, false⟩,
 ⟨(some 15), .iaddr 2 (.tmp 13) (.tmp 14), none, false⟩,
 ⟨(some 16), .load 2 true (.tmp 15), none, false⟩,
 ⟨(some 17), .move (.tmp 0), none, false⟩,
 ⟨(some 18), .move (.tmp 1), none, false⟩,
 ⟨(some 19), .iaddr 2 (.tmp 17) (.tmp 18), none, false⟩,
 ⟨(some 20), .load 2 true (.tmp 19), none, false⟩,
 ⟨(some 21), .call (.tmp 12) [(.tmp 16), (.tmp 20)], none, false⟩,
 ⟨(some 22), .bin .lss 3 (.tmp 21) (.const (.int .i64 0)), none, false⟩])
 (.cond (.tmp 22)
 (.seq (.region false [⟨(some 23), .move (.tmp 3), none, false⟩,
 ⟨(some 24), .nilCheck (.tmp 23), none, false⟩,
 ⟨(some 25), .load 1 false (.tmp 24), none, false⟩,
 ⟨(some 26), .bin .add 3 (.tmp 25) (.const (.int .i64 1)), none, false⟩,
 ⟨(some 27), .nilCheck (.tmp 23), none, false⟩,
 ⟨none, .store 1 (.tmp 27) (.tmp 26), none, false⟩])
 (.seq (.region false [⟨(some 28), .move (.tmp 2), none, false⟩,
 ⟨(some 29), .move (.tmp 1), none, false⟩,
 ⟨(some 10), .move (.tmp 28), none, false⟩,
 ⟨(some 11), .move (.tmp 29), none, false⟩])
 (.ret)))
 (.skip)))
 (.seq (.region false [⟨(some 30), .move (.tmp 1), none, false⟩,
 ⟨(some 31), .move (.tmp 2), none, false⟩,
 ⟨(some 10), .move (.tmp 30), none, false⟩,
 ⟨(some 11), .move (.tmp 31), none, false⟩])
 (.ret)))
theorem text82 : FnText Try.prog 82 [] 32 5 ac82 [(10, none), (11, none)] :=
 ⟨Try.call82, follows, Try.f82, _, Try.func82, rfl, rfl, by decide, by kernel_rfl, by kernel_rfl⟩

def ac55_L1 : AC :=
 .seq (.seq (.region false [⟨(some 13), .move (.tmp 8), none, false⟩,
 ⟨(some 14), .move (.tmp 9), none, false⟩,
 ⟨(some 15), .bin .lss 3 (.tmp 13) (.tmp 14), none, false⟩])
 (.cond (.tmp 15)
 (.skip)
 (.exit 0)))
 (.block 1 (.seq (.region true [⟨(some 16), .move (.tmp 0), none, false⟩,
 ⟨(some 17), .move (.tmp 8), none, false⟩,
 ⟨(some 18), .move (.tmp 0), none, true⟩,
 ⟨(some 19), .move (.tmp 9), none, true⟩,
 ⟨(some 20), .move (.tmp 0), none, false⟩,
 ⟨(some 21), .move (.tmp 9), none, false⟩,
 ⟨(some 22), .iaddr 2 (.tmp 20) (.tmp 21), none, false⟩,
 ⟨(some 23), .load 2 true (.tmp 22), none, false⟩,
 ⟨(some 24), .move (.tmp 0), none, false⟩,
 ⟨(some 25), .move (.tmp 8), none, false⟩,
 ⟨(some 26), .iaddr 2 (.tmp 24) (.tmp 25), none, false⟩,
 ⟨(some 27), .load 2 true (.tmp 26), none, false⟩,
 ⟨(some 28), .iaddr 2 (.tmp 16) (.tmp 17), none, false⟩,
 ⟨none, .store 2 (.tmp 28) (.tmp 23), none, false⟩,
 ⟨(some 29), .iaddr 2 (.tmp 18) (.tmp 19), none, false⟩,
 ⟨none, .store 2 (.tmp 29) (.tmp 27), none, false⟩])
 (.seq (.region false [⟨(some 30), .move (.tmp 8), none, false⟩,
 ⟨(some 31), .bin .add 3 (.tmp 30) (.const (.int .i64 1)), none, false⟩,
 ⟨(some 8), .move (.tmp 31), none, false⟩])
 (.region false [⟨(some 32), .move (.tmp 9), none, false⟩,
 ⟨(some 33), .bin .sub 3 (.tmp 32) (.const (.int .i64 1)), none, false⟩,
 ⟨(some 9), .move (.tmp 33), none, false⟩]))))
/-- slices.reverseRangeCmpFunc[patchbay/api.FieldRef] -/
def ac55 : AC :=
 .seq (.region false [⟨(some 10), .move (.tmp 1), none, false⟩,
 ⟨(some 8), .move (.tmp 10), none, false⟩])
 (.seq (.region false [⟨(some 11), .move (.tmp 2), none, false⟩,
 ⟨(some 12), .bin .sub 3 (.tmp 11) (.const (.int .i64 1)), none, false⟩,
 ⟨(some 9), .move (.tmp 12), none, false⟩])
 (.block 0 (.loop ac55_L1)))
theorem text55 : FnText Try.prog 55 [] 34 4 ac55 [] :=
 ⟨Try.call55, follows, Try.f55, _, Try.func55, rfl, rfl, by decide, by kernel_rfl, by kernel_rfl⟩

def ac56_G1 : List AOper :=
 [⟨(some 23), .move (.tmp 3), (some (22, true)), false⟩,
 ⟨(some 24), .move (.tmp 0), (some (22, true)), false⟩,
 ⟨(some 25), .move (.tmp 9), (some (22, true)), false⟩,
 ⟨(some 26), .iaddr 2 (.tmp 24) (.tmp 25), (some (22, true)), false⟩,
 ⟨(some 27), .load 2 true (.tmp 26), (some (22, true)), false⟩,
 ⟨(some 28), .move (.tmp 0), (some (22, true)), false⟩,
 ⟨(some 29), .move (.tmp 9), (some (22, true)), false⟩,
 ⟨(some 30), .bin .sub 3 (.tmp 29) (.const (.int .i64 1)), (some (22, true)), false⟩,
 ⟨(some 31), .iaddr 2 (.tmp 28) (.tmp 30), (some (22, true)), false⟩,
 ⟨(some 32), .load 2 true (.tmp 31), (some (22, true)), false⟩,
 ⟨(some 33), .call (.tmp 23) [(.tmp 27), (.tmp 32)], (some (22, true)), false⟩,
 ⟨(some 34), .bin .lss 3 (.tmp 33) (.const (.int .i64 0)), (some (22, true)), false⟩,
 ⟨(some 35), .un .not (.tmp 34), (some (22, true)), false⟩,
 ⟨(some 36), .pick (.tmp 22) (.tmp 35) (.const (.bool false)), none, false⟩]
def ac56_L2 : AC :=
 .seq (.seq (.region true (⟨(some 19), .move (.tmp 9), none, false⟩ :: ⟨(some 20), .move (.tmp 2), none, false⟩ :: ⟨(some 21), .bin .lss 3 (.tmp 19) (.tmp 20), none, false⟩ :: ⟨(some 22), .move (.tmp 21), none, false⟩ :: (ac56_G1 ++ [])))
 (.cond (.tmp 36)
 (.skip)
 (.exit 2)))
 (.block 3 (.region false [⟨(some 37), .move (.tmp 9), none, false⟩,
 ⟨(some 38), .bin .add 3 (.tmp 37) (.const (.int .i64 1)), none, false⟩,
 ⟨(some 9), .move (.tmp 38), none, false⟩]))
def ac56_L3 : AC :=
 .seq (.seq (.region false [⟨(some 68), .move (.tmp 11), none, false⟩,
 ⟨(some 69), .bin .geq 3 (.tmp 68) (.const (.int .i64 1)), none, false⟩])
 (.cond (.tmp 69)
 (.skip)
 (.exit 4)))
 (.seq (.block 5 (.seq (.seq (.region true [⟨(some 72), .move (.tmp 3), none, false⟩,
 ⟨(some 73), .move (.tmp 0), none, false⟩,
 ⟨(some 74), .move (.tmp 11), none, false⟩,
 ⟨(some 75), .iaddr 2 (.tmp 73) (.tmp 74), none, false⟩,
 ⟨(some 76), .load 2 true (.tmp 75), none, false⟩,
 ⟨(some 77), .move (.tmp 0), none, false⟩,
 ⟨(some 78), .move (.tmp 11), none, false⟩,
 ⟨(some 79), .bin .sub 3 (.tmp 78) (.const (.int .i64 1)), none, false⟩,
 ⟨(some 80), .iaddr 2 (.tmp 77) (.tmp 79), none, false⟩,
 ⟨(some 81), .load 2 true (.tmp 80), none, false⟩,
 ⟨(some 82), .call (.tmp 72) [(.tmp 76), (.tmp 81)], none, false⟩,
 ⟨(some 83), .bin .lss 3 (.tmp 82) (.const (.int .i64 0)), none, false⟩,
 ⟨(some 84), .un .not (.tmp 83), none, false⟩])
 (.cond (.tmp 84)
 (.exit 4)
 (.skip)))
 (.region true [⟨(some 85), .move (.tmp 0), none, false⟩,
 ⟨(some 86), .move (.tmp 11), none, false⟩,
 ⟨(some 87), .move (.tmp 0), none, true⟩,
 ⟨(some 88), .move (.tmp 11), none, true⟩,
 ⟨(some 89), .bin .sub 3 (.tmp 88) (.const (.int .i64 1)), none, true⟩,
 ⟨(some 90), .move (.tmp 0), none, false⟩,
 ⟨(some 91), .move (.tmp 11), none, false⟩,
 ⟨(some 92), .bin .sub 3 (.tmp 91) (.const (.int .i64 1)), none, false⟩,
 ⟨(some 93), .iaddr 2 (.tmp 90) (.tmp 92), none, false⟩,
 ⟨(some 94), .load 2 true (.tmp 93), none, false⟩,
 ⟨(some 95), .move (.tmp 0), none, false⟩,
 ⟨(some 96), .move (.tmp 11), none, false⟩,
 ⟨(some 97), .iaddr 2 (.tmp 95) (.tmp 96), none, false⟩,
 ⟨(some 98), .load 2 true (.tmp 97), none, false⟩,
 ⟨(some 99), .iaddr 2 (.tmp 85) (.tmp 86), none, false⟩,
 ⟨none, .store 2 (.tmp 99) (.tmp 94), none, false⟩,
 ⟨(some 100), .iaddr 2 (.tmp 87) (.tmp 89), none, false⟩,
 ⟨none, .store 2 (.tmp 100) (.tmp 98), none, false⟩])))
 (.region false [⟨(some 70), .move (.tmp 11), none, false⟩,
 ⟨(some 71), .bin .sub 3 (.tmp 70) (.const (.int .i64 1)), none, false⟩,
 ⟨(some 11), .move (.tmp 71), none, false⟩]))
def ac56_L4 : AC :=
 .seq (.seq (.region false [⟨(some 107), .move (.tmp 12), none, false⟩,
 ⟨(some 108), .move (.tmp 2), none, false⟩,
 ⟨(some 109), .bin .lss 3 (.tmp 107) (.tmp 108), none, false⟩])
 (.cond (.tmp 109)
 (.skip)
 (.exit 6)))
 (.seq (.block 7 (.seq (.seq (.region true [⟨(some 112), .move (.tmp 3), none, false⟩,
 ⟨(some 113), .move (.tmp 0), none, false⟩,
 ⟨(some 114), .move (.tmp 12), none, false⟩,
 ⟨(some 115), .iaddr 2 (.tmp 113) (.tmp 114), none, false⟩,
 ⟨(some 116), .load 2 true (.tmp 115), none, false⟩,
 ⟨(some 117), .move (.tmp 0), none, false⟩,
 ⟨(some 118), .move (.tmp 12), none, false⟩,
 ⟨(some 119), .bin .sub 3 (.tmp 118) (.const (.int .i64 1)), none, false⟩,
 ⟨(some 120), .iaddr 2 (.tmp 117) (.tmp 119), none, false⟩,
 ⟨(some 121), .load 2 true (.tmp 120), none, false⟩,
 ⟨(some 122), .call (.tmp 112) [(.tmp 116), (.tmp 121)], none, false⟩,
 ⟨(some 123), .bin .lss 3 (.tmp 122) (.const (.int .i64 0)), none, false⟩,
 ⟨(some 124), .un .not (.tmp 123), none, false⟩])
 (.cond (.tmp 124)
 (.exit 6)
 (.skip)))
 (.region true [⟨(some 125), .move (.tmp 0), none, false⟩,
 ⟨(some 126), .move (.tmp 12), none, false⟩,
 ⟨(some 127), .move (.tmp 0), none, true⟩,
 ⟨(some 128), .move (.tmp 12), none, true⟩,
 ⟨(some 129), .bin .sub 3 (.tmp 128) (.const (.int .i64 1)), none, true⟩,
 ⟨(some 130), .move (.tmp 0), none, false⟩,
 ⟨(some 131), .move (.tmp 12), none, false⟩,
 ⟨(some 132), .bin .sub 3 (.tmp 131) (.const (.int .i64 1)), none, false⟩,
 ⟨(some 133), .iaddr 2 (.tmp 130) (.tmp 132), none, false⟩,
 ⟨(some 134), .load 2 true (.tmp 133), none, false⟩,
 ⟨(some 135), .move (.tmp 0), none, false⟩,
 ⟨(some 136), .move (.tmp 12), none, false⟩,
 ⟨(some 137), .iaddr 2 (.tmp 135) (.tmp 136), none, false⟩,
 ⟨(some 138), .load 2 true (.tmp 137), none, false⟩,
 ⟨(some 139), .iaddr 2 (.tmp 125) (.tmp 126), none, false⟩,
 ⟨none, .store 2 (.tmp 139) (.tmp 134), none, false⟩,
 ⟨(some 140), .iaddr 2 (.tmp 127) (.tmp 129), none, false⟩,
 ⟨none, .store 2 (.tmp 140) (.tmp 138), none, false⟩])))
 (.region false [⟨(some 110), .move (.tmp 12), none, false⟩,
 ⟨(some 111), .bin .add 3 (.tmp 110) (.const (.int .i64 1)), none, false⟩,
 ⟨(some 12), .move (.tmp 111), none, false⟩]))
def ac56_L1 : AC :=
 .seq (.seq (.region false [⟨(some 15), .move (.tmp 10), none, false⟩,
 ⟨(some 16), .bin .lss 3 (.tmp 15) (.const (.int .i64 5)), none, false⟩])
 (.cond (.tmp 16)
 (.skip)
 (.exit 0)))
 (.seq (.block 1 (.seq (.block 2 (.loop ac56_L2))
 (.seq (.seq (.region false [⟨(some 39), .move (.tmp 9), none, false⟩,
 ⟨(some 40), .move (.tmp 2), none, false⟩,
 ⟨(some 41), .bin .eql 3 (.tmp 39) (.tmp 40), none, false⟩])
 (.cond (.tmp 41)
 (.seq (.region false [⟨(some 8), .move (.const (.bool true)), none, false⟩])
 (.ret))
 (.skip)))
 (.seq (.seq (.region false [⟨(some 42), .move (.tmp 2), none, false⟩,
 ⟨(some 43), .move (.tmp 1), none, false⟩,
 ⟨(some 44), .bin .sub 3 (.tmp 42) (.tmp 43), none, false⟩,
 ⟨(some 45), .bin .lss 3 (.tmp 44) (.const (.int .i64 50)), none, false⟩])
 (.cond (.tmp 45)
 (.seq (.region false [⟨(some 8), .move (.const (.bool false)), none, false⟩])
 (.ret))
 (.skip)))
 (.seq (.region true [⟨(some 46), .move (.tmp 0), none, false⟩,
 ⟨(some 47), .move (.tmp 9), none, false⟩,
 ⟨(some 48), .move (.tmp 0), none, true⟩,
 ⟨(some 49), .move (.tmp 9), none, true⟩,
 ⟨(some 50), .bin .sub 3 (.tmp 49) (.const (.int .i64 1)), none, true⟩,
 ⟨(some 51), .move (.tmp 0), none, false⟩,
 ⟨(some 52), .move (.tmp 9), none, false⟩,
 ⟨(some 53), .bin .sub 3 (.tmp 52) (.const (.int .i64 1)), none, false⟩,
 ⟨(some 54), .iaddr 2 (.tmp 51) (.tmp 53), none, false⟩,
 ⟨(some 55), .load 2 true (.tmp 54), none, false⟩,
 ⟨(some 56), .move (.tmp 0), none, false⟩,
 ⟨(some 57), .move (.tmp 9), none, false⟩,
 ⟨(some 58), .iaddr 2 (.tmp 56) (.tmp 57), none, false⟩,
 ⟨(some 59), .load 2 true (.tmp 58), none, false⟩,
 ⟨(some 60), .iaddr 2 (.tmp 46) (.tmp 47), none, false⟩,
 ⟨none, .store 2 (.tmp 60) (.tmp 55), none, false⟩,
 ⟨(some 61), .iaddr 2 (.tmp 48) (.tmp 50), none, false⟩,
 ⟨none, .store 2 (.tmp 61) (.tmp 59), none, false⟩])
 (.seq (.seq (.region false [⟨(some 62), .move (.tmp 9), none, false⟩,
 ⟨(some 63), .move (.tmp 1), none, false⟩,
 ⟨(some 64), .bin .sub 3 (.tmp 62) (.tmp 63), none, false⟩,
 ⟨(some 65), .bin .geq 3 (.tmp 64) (.const (.int .i64 2)), none, false⟩])
 (.cond (.tmp 65)
 (.seq (.region false [⟨(some 66), .move (.tmp 9), none, false⟩,
 ⟨(some 67), .bin .sub 3 (.tmp 66) (.const (.int .i64 1)), none, false⟩,
 ⟨(some 11), .move (.tmp 67), none, false⟩])
 (.block 4 (.loop ac56_L3)))
 (.skip)))
 (.seq (.region false [⟨(some 101), .move (.tmp 2), none, false⟩,
 ⟨(some 102), .move (.tmp 9), none, false⟩,
 ⟨(some 103), .bin .sub 3 (.tmp 101) (.tmp 102), none, false⟩,
 ⟨(some 104), .bin .geq 3 (.tmp 103) (.const (.int .i64 2)), none, false⟩])
 (.cond (.tmp 104)
 (.seq (.region false [⟨(some 105), .move (.tmp 9), none, false⟩,
 ⟨(some 106), .bin .add 3 (.tmp 105) (.const (.int .i64 1)), none, false⟩,
 ⟨(some 12), .move (.tmp 106), none, false⟩])
 (.block 6 (.loop ac56_L4)))
 (.skip)))))))))
 (.region false [⟨(some 17), .move (.tmp 10), none, false⟩,
 ⟨(some 18), .bin .add 3 (.tmp 17) (.const (.int .i64 1)), none, false⟩,
 ⟨(some 10), .move (.tmp 18), none, false⟩]))
/-- slices.partialInsertionSortCmpFunc[patchbay/api.FieldRef] -/
def ac56 : AC :=
 .seq (.region false [⟨(some 8), .move (.const (.bool false)), none, false⟩])
 (.seq (.region false [⟨(some 13), .move (.tmp 1), none, false⟩,
 ⟨(some 14), .bin .add 3 (.tmp 13) (.const (.int .i64 1)), none, false⟩,
 ⟨(some 9), .move (.tmp 14), none, false⟩])
 (.seq (.seq (.region false [⟨(some 10), .move (.const (.int .i64 0)), none, false⟩])
 (.block 0 (.loop ac56_L1)))
 (.seq (.region false [⟨(some 8), .move (.const (.bool false)), none, false⟩])
 (.ret))))
theorem text56 : FnText Try.prog 56 [] 141 4 ac56 [(8, none)] :=
 ⟨Try.call56, follows, Try.f56, _, Try.func56, rfl, rfl, by decide, by kernel_rfl, by kernel_rfl⟩

def ac57_G1 : List AOper :=
 [⟨(some 35), .move (.tmp 4), (some (34, true)), false⟩,
 ⟨(some 36), .move (.tmp 0), (some (34, true)), false⟩,
 ⟨(some 37), .move (.tmp 1), (some (34, true)), false⟩,
 ⟨(some 38), .iaddr 2 (.tmp 36) (.tmp 37), (some (34, true)), false⟩,
 ⟨(some 39), .load 2 true (.tmp 38), (some (34, true)), false⟩,
 ⟨(some 40), .move (.tmp 0), (some (34, true)), false⟩,
 ⟨(some 41), .move (.tmp 11), (some (34, true)), false⟩,
 ⟨(some 42), .iaddr 2 (.tmp 40) (.tmp 41), (some (34, true)), false⟩,
 ⟨(some 43), .load 2 true (.tmp 42), (some (34, true)), false⟩,
 ⟨(some 44), .call (.tmp 35) [(.tmp 39), (.tmp 43)], (some (34, true)), false⟩,
 ⟨(some 45), .bin .lss 3 (.tmp 44) (.const (.int .i64 0)), (some (34, true)), false⟩,
 ⟨(some 46), .un .not (.tmp 45), (some (34, true)), false⟩,
 ⟨(some 47), .pick (.tmp 34) (.tmp 46) (.const (.bool false)), none, false⟩]
def ac57_L2 : AC :=
 .seq (.seq (.region true (⟨(some 31), .move (.tmp 11), none, false⟩ :: ⟨(some 32), .move (.tmp 12), none, false⟩ :: ⟨(some 33), .bin .leq 3 (.tmp 31) (.tmp 32), none, false⟩ :: ⟨(some 34), .move (.tmp 33), none, false⟩ :: (ac57_G1 ++ [])))
 (.cond (.tmp 47)
 (.skip)
 (.exit 2)))
 (.block 3 (.region false [⟨(some 48), .move (.tmp 11), none, false⟩,
 ⟨(some 49), .bin .add 3 (.tmp 48) (.const (.int .i64 1)), none, false⟩,
 ⟨(some 11), .move (.tmp 49), none, false⟩]))
def ac57_G2 : List AOper :=
 [⟨(some 54), .move (.tmp 4), (some (53, true)), false⟩,
 ⟨(some 55), .move (.tmp 0), (some (53, true)), false⟩,
 ⟨(some 56), .move (.tmp 1), (some (53, true)), false⟩,
 ⟨(some 57), .iaddr 2 (.tmp 55) (.tmp 56), (some (53, true)), false⟩,
 ⟨(some 58), .load 2 true (.tmp 57), (some (53, true)), false⟩,
 ⟨(some 59), .move (.tmp 0), (some (53, true)), false⟩,
 ⟨(some 60), .move (.tmp 12), (some (53, true)), false⟩,
 ⟨(some 61), .iaddr 2 (.tmp 59) (.tmp 60), (some (53, true)), false⟩,
 ⟨(some 62), .load 2 true (.tmp 61), (some (53, true)), false⟩,
 ⟨(some 63), .call (.tmp 54) [(.tmp 58), (.tmp 62)], (some (53, true)), false⟩,
 ⟨(some 64), .bin .lss 3 (.tmp 63) (.const (.int .i64 0)), (some (53, true)), false⟩,
 ⟨(some 65), .pick (.tmp 53) (.tmp 64) (.const (.bool false)), none, false⟩]
def ac57_L3 : AC :=
 .seq (.seq (.region true (⟨(some 50), .move (.tmp 11), none, false⟩ :: ⟨(some 51), .move (.tmp 12), none, false⟩ :: ⟨(some 52), .bin .leq 3 (.tmp 50) (.tmp 51), none, false⟩ :: ⟨(some 53), .move (.tmp 52), none, false⟩ :: (ac57_G2 ++ [])))
 (.cond (.tmp 65)
 (.skip)
 (.exit 4)))
 (.block 5 (.region false [⟨(some 66), .move (.tmp 12), none, false⟩,
 ⟨(some 67), .bin .sub 3 (.tmp 66) (.const (.int .i64 1)), none, false⟩,
 ⟨(some 12), .move (.tmp 67), none, false⟩]))
def ac57_L1 : AC :=
 .block 1 (.seq (.block 2 (.loop ac57_L2))
 (.seq (.block 4 (.loop ac57_L3))
 (.seq (.seq (.region false [⟨(some 68), .move (.tmp 11), none, false⟩,
 ⟨(some 69), .move (.tmp 12), none, false⟩,
 ⟨(some 70), .bin .gtr 3 (.tmp 68) (.tmp 69), none, false⟩])
 (.cond (.tmp 70)
 (.exit 0)
 (.skip)))
 (.seq (.region true [⟨(some 71), .move (.tmp 0), none, false⟩,
 ⟨(some 72), .move (.tmp 11), none, false⟩,
 ⟨(some 73), .move (.tmp 0), none, true⟩,
 ⟨(some 74), .move (.tmp 12), none, true⟩,
 ⟨(some 75), .move (.tmp 0), none, false⟩,
 ⟨(some 76), .move (.tmp 12), none, false⟩,
 ⟨(some 77), .iaddr 2 (.tmp 75) (.tmp 76), none, false⟩,
 ⟨(some 78), .load 2 true (.tmp 77), none, false⟩,
 ⟨(some 79), .move (.tmp 0), none, false⟩,
 ⟨(some 80), .move (.tmp 11), none, false⟩,
 ⟨(some 81), .iaddr 2 (.tmp 79) (.tmp 80), none, false⟩,
 ⟨(some 82), .load 2 true (.tmp 81), none, false⟩,
 ⟨(some 83), .iaddr 2 (.tmp 71) (.tmp 72), none, false⟩,
 ⟨none, .store 2 (.tmp 83) (.tmp 78), none, false⟩,
 ⟨(some 84), .iaddr 2 (.tmp 73) (.tmp 74), none, false⟩,
 ⟨none, .store 2 (.tmp 84) (.tmp 82), none, false⟩])
 (.seq (.region false [⟨(some 85), .move (.tmp 11), none, false⟩,
 ⟨(some 86), .bin .add 3 (.tmp 85) (.const (.int .i64 1)), none, false⟩,
 ⟨(some 11), .move (.tmp 86), none, false⟩])
 (.region false [⟨(some 87), .move (.tmp 12), none, false⟩,
 ⟨(some 88), .bin .sub 3 (.tmp 87) (.const (.int .i64 1)), none, false⟩,
 ⟨(some 12), .move (.tmp 88), none, false⟩]))))))
/-- slices.partitionEqualCmpFunc[patchbay/api.FieldRef] -/
def ac57 : AC :=
 .seq (.region false [⟨(some 10), .move (.const (.int .i64 0)), none, false⟩])
 (.seq (.region true [⟨(some 13), .move (.tmp 0), none, false⟩,
 ⟨(some 14), .move (.tmp 1), none, false⟩,
 ⟨(some 15), .move (.tmp 0), none, true⟩,
 ⟨(some 16), .move (.tmp 3), none, true⟩,
 ⟨(some 17), .move (.tmp 0), none, false⟩,
 ⟨(some 18), .move (.tmp 3), none, false⟩,
 ⟨(some 19), .iaddr 2 (.tmp 17) (.tmp 18), none, false⟩,
 ⟨(some 20), .load 2 true (.tmp 19), none, false⟩,
 ⟨(some 21), .move (.tmp 0), none, false⟩,
 ⟨(some 22), .move (.tmp 1), none, false⟩,
 ⟨(some 23), .iaddr 2 (.tmp 21) (.tmp 22), none, false⟩,
 ⟨(some 24), .load 2 true (.tmp 23), none, false⟩,
 ⟨(some 25), .iaddr 2 (.tmp 13) (.tmp 14), none, false⟩,
 ⟨none, .store 2 (.tmp 25) (.tmp 20), none, false⟩,
 ⟨(some 26), .iaddr 2 (.tmp 15) (.tmp 16), none, false⟩,
 ⟨none, .store 2 (.tmp 26) (.tmp 24), none, false⟩])
 (.seq (.region false [⟨(some 27), .move (.tmp 1), none, false⟩,
 ⟨(some 28), .bin .add 3 (.tmp 27) (.const (.int .i64 1)), none, false⟩,
 ⟨(some 29), .move (.tmp 2), none, false⟩,
 ⟨(some 30), .bin .sub 3 (.tmp 29) (.const (.int .i64 1)), none, false⟩,
 ⟨(some 11), .move (.tmp 28), none, false⟩,
 ⟨(some 12), .move (.tmp 30), none, false⟩])
 (.seq (.block 0 (.loop ac57_L1))
 (.seq (.region false [⟨(some 89), .move (.tmp 11), none, false⟩,
 ⟨(some 10), .move (.tmp 89), none, false⟩])
 (.ret)))))
theorem text57 : FnText Try.prog 57 [] 90 5 ac57 [(10, none)] :=
 ⟨Try.call57, follows, Try.f57, _, Try.func57, rfl, rfl, by decide, by kernel_rfl, by kernel_rfl⟩

def ac58_G1 : List AOper :=
 [⟨(some 36), .move (.tmp 4), (some (35, true)), false⟩,
 ⟨(some 37), .move (.tmp 0), (some (35, true)), false⟩,
 ⟨(some 38), .move (.tmp 12), (some (35, true)), false⟩,
 ⟨(some 39), .iaddr 2 (.tmp 37) (.tmp 38), (some (35, true)), false⟩,
 ⟨(some 40), .load 2 true (.tmp 39), (some (35, true)), false⟩,
 ⟨(some 41), .move (.tmp 0), (some (35, true)), false⟩,
 ⟨(some 42), .move (.tmp 1), (some (35, true)), false⟩,
 ⟨(some 43), .iaddr 2 (.tmp 41) (.tmp 42), (some (35, true)), false⟩,
 ⟨(some 44), .load 2 true (.tmp 43), (some (35, true)), false⟩,
 ⟨(some 45), .call (.tmp 36) [(.tmp 40), (.tmp 44)], (some (35, true)), false⟩,
 ⟨(some 46), .bin .lss 3 (.tmp 45) (.const (.int .i64 0)), (some (35, true)), false⟩,
 ⟨(some 47), .pick (.tmp 35) (.tmp 46) (.const (.bool false)), none, false⟩]
def ac58_L1 : AC :=
 .seq (.seq (.region true (⟨(some 32), .move (.tmp 12), none, false⟩ :: ⟨(some 33), .move (.tmp 13), none, false⟩ :: ⟨(some 34), .bin .leq 3 (.tmp 32) (.tmp 33), none, false⟩ :: ⟨(some 35), .move (.tmp 34), none, false⟩ :: (ac58_G1 ++ [])))
 (.cond (.tmp 47)
 (.skip)
 (.exit 0)))
 (.block 1 (.region false [⟨(some 48), .move (.tmp 12), none, false⟩,
 ⟨(some 49), .bin .add 3 (.tmp 48) (.const (.int .i64 1)), none, false⟩,
 ⟨(some 12), .move (.tmp 49), none, false⟩]))
def ac58_G2 : List AOper :=
 [⟨(some 54), .move (.tmp 4), (some (53, true)), false⟩,
 ⟨(some 55), .move (.tmp 0), (some (53, true)), false⟩,
 ⟨(some 56), .move (.tmp 13), (some (53, true)), false⟩,
 ⟨(some 57), .iaddr 2 (.tmp 55) (.tmp 56), (some (53, true)), false⟩,
 ⟨(some 58), .load 2 true (.tmp 57), (some (53, true)), false⟩,
 ⟨(some 59), .move (.tmp 0), (some (53, true)), false⟩,
 ⟨(some 60), .move (.tmp 1), (some (53, true)), false⟩,
 ⟨(some 61), .iaddr 2 (.tmp 59) (.tmp 60), (some (53, true)), false⟩,
 ⟨(some 62), .load 2 true (.tmp 61), (some (53, true)), false⟩,
 ⟨(some 63), .call (.tmp 54) [(.tmp 58), (.tmp 62)], (some (53, true)), false⟩,
 ⟨(some 64), .bin .lss 3 (.tmp 63) (.const (.int .i64 0)), (some (53, true)), false⟩,
 ⟨(some 65), .un .not (.tmp 64), (some (53, true)), false⟩,
 ⟨(some 66), .pick (.tmp 53) (.tmp 65) (.const (.bool false)), none, false⟩]
def ac58_L2 : AC :=
 .seq (.seq (.region true (⟨(some 50), .move (.tmp 12), none, false⟩ :: ⟨(some 51), .move (.tmp 13), none, false⟩ :: ⟨(some 52), .bin .leq 3 (.tmp 50) (.tmp 51), none, false⟩ :: ⟨(some 53), .move (.tmp 52), none, false⟩ :: (ac58_G2 ++ [])))
 (.cond (.tmp 66)
 (.skip)
 (.exit 2)))
 (.block 3 (.region false [⟨(some 67), .move (.tmp 13), none, false⟩,
 ⟨(some 68), .bin .sub 3 (.tmp 67) (.const (.int .i64 1)), none, false⟩,
 ⟨(some 13), .move (.tmp 68), none, false⟩]))
def ac58_G3 : List AOper :=
 [⟨(some 109), .move (.tmp 4), (some (108, true)), false⟩,
 ⟨(some 110), .move (.tmp 0), (some (108, true)), false⟩,
 ⟨(some 111), .move (.tmp 12), (some (108, true)), false⟩,
 ⟨(some 112), .iaddr 2 (.tmp 110) (.tmp 111), (some (108, true)), false⟩,
 ⟨(some 113), .load 2 true (.tmp 112), (some (108, true)), false⟩,
 ⟨(some 114), .move (.tmp 0), (some (108, true)), false⟩,
 ⟨(some 115), .move (.tmp 1), (some (108, true)), false⟩,
 ⟨(some 116), .iaddr 2 (.tmp 114) (.tmp 115), (some (108, true)), false⟩,
 ⟨(some 117), .load 2 true (.tmp 116), (some (108, true)), false⟩,
 ⟨(some 118), .call (.tmp 109) [(.tmp 113), (.tmp 117)], (some (108, true)), false⟩,
 ⟨(some 119), .bin .lss 3 (.tmp 118) (.const (.int .i64 0)), (some (108, true)), false⟩,
 ⟨(some 120), .pick (.tmp 108) (.tmp 119) (.const (.bool false)), none, false⟩]
def ac58_L4 : AC :=
 .seq (.seq (.region true (⟨(some 105), .move (.tmp 12), none, false⟩ :: ⟨(some 106), .move (.tmp 13), none, false⟩ :: ⟨(some 107), .bin .leq 3 (.tmp 105) (.tmp 106), none, false⟩ :: ⟨(some 108), .move (.tmp 107), none, false⟩ :: (ac58_G3 ++ [])))
 (.cond (.tmp 120)
 (.skip)
 (.exit 6)))
 (.block 7 (.region false [⟨(some 121), .move (.tmp 12), none, false⟩,
 ⟨(some 122), .bin .add 3 (.tmp 121) (.const (.int .i64 1)), none, false⟩,
 ⟨(some 12), .move (.tmp 122), none, false⟩]))
def ac58_G4 : List AOper :=
 [⟨(some 127), .move (.tmp 4), (some (126, true)), false⟩,
 ⟨(some 128), .move (.tmp 0), (some (126, true)), false⟩,
 ⟨(some 129), .move (.tmp 13), (some (126, true)), false⟩,
 ⟨(some 130), .iaddr 2 (.tmp 128) (.tmp 129), (some (126, true)), false⟩,
 ⟨(some 131), .load 2 true (.tmp 130), (some (126, true)), false⟩,
 ⟨(some 132), .move (.tmp 0), (some (126, true)), false⟩,
 ⟨(some 133), .move (.tmp 1), (some (126, true)), false⟩,
 ⟨(some 134), .iaddr 2 (.tmp 132) (.tmp 133), (some (126, true)), false⟩,
 ⟨(some 135), .load 2 true (.tmp 134), (some (126, true)), false⟩,
 ⟨(some 136), .call (.tmp 127) [(.tmp 131), (.tmp 135)], (some (126, true)), false⟩,
 ⟨(some 137), .bin .lss 3 (.tmp 136) (.const (.int .i64 0)), (some (126, true)), false⟩,
 ⟨(some 138), .un .not (.tmp 137), (some (126, true)), false⟩,
 ⟨(some 139), .pick (.tmp 126) (.tmp 138) (.const (.bool false)), none, false⟩]
def ac58_L5 : AC :=
 .seq (.seq (.region true (⟨(some 123), .move (.tmp 12), none, false⟩ :: ⟨(some 124), .move (.tmp 13), none, false⟩ :: ⟨(some 125), .bin .leq 3 (.tmp 123) (.tmp 124), none, false⟩ :: ⟨(some 126), .move (.tmp 125), none, false⟩ :: (ac58_G4 ++ [])))
 (.cond (.tmp 139)
 (.skip)
 (.exit 8)))
 (.block 9 (.region false [⟨(some 140), .move (.tmp 13), none, false⟩,
 ⟨(some 141), .bin .sub 3 (.tmp 140) (.const (.int .i64 1)), none, false⟩,
 ⟨(some 13), .move (.tmp 141), none, false⟩]))
def ac58_L3 : AC :=
 .block 5 (.seq (.block 6 (.loop ac58_L4))
 (.seq (.block 8 (.loop ac58_L5))
 (.seq (.seq (.region false [⟨(some 142), .move (.tmp 12), none, false⟩,
 ⟨(some 143), .move (.tmp 13), none, false⟩,
 ⟨(some 144), .bin .gtr 3 (.tmp 142) (.tmp 143), none, false⟩])
 (.cond (.tmp 144)
 (.exit 4)
 (.skip)))
 (.seq (.region true [⟨(some 145), .move (.tmp 0), none, false⟩,
 ⟨(some 146), .move (.tmp 12), none, false⟩,
 ⟨(some 147), .move (.tmp 0), none, true⟩,
 ⟨(some 148), .move (.tmp 13), none, true⟩,
 ⟨(some 149), .move (.tmp 0), none, false⟩,
 ⟨(some 150), .move (.tmp 13), none, false⟩,
 ⟨(some 151), .iaddr 2 (.tmp 149) (.tmp 150), none, false⟩,
 ⟨(some 152), .load 2 true (.tmp 151), none, false⟩,
 ⟨(some 153), .move (.tmp 0), none, false⟩,
 ⟨(some 154), .move (.tmp 12), none, false⟩,
 ⟨(some 155), .iaddr 2 (.tmp 153) (.tmp 154), none, false⟩,
 ⟨(some 156), .load 2 true (.tmp 155), none, false⟩,
 ⟨(some 157), .iaddr 2 (.tmp 145) (.tmp 146), none, false⟩,
 ⟨none, .store 2 (.tmp 157) (.tmp 152), none, false⟩,
 ⟨(some 158), .iaddr 2 (.tmp 147) (.tmp 148), none, false⟩,
 ⟨none, .store 2 (.tmp 158) (.tmp 156), none, false⟩])
 (.seq (.region false [⟨(some 159), .move (.tmp 12), none, false⟩,
 ⟨(some 160), .bin .add 3 (.tmp 159) (.const (.int .i64 1)), none, false⟩,
 ⟨(some 12), .move (.tmp 160), none, false⟩])
 (.region false [⟨(some 161), .move (.tmp 13), none, false⟩,
 ⟨(some 162), .bin .sub 3 (.tmp 161) (.const (.int .i64 1)), none, false⟩,
 ⟨(some 13), .move (.tmp 162), none, false⟩]))))))
/-- slices.partitionCmpFunc[patchbay/api.FieldRef] -/
def ac58 : AC :=
 .seq (.region false [⟨(some 10), .move (.const (.int .i64 0)), none, false⟩,
 ⟨(some 11), .move (.const (.bool false)), none, false⟩])
 (.seq (.region true [⟨(some 14), .move (.tmp 0), none, false⟩,
 ⟨(some 15), .move (.tmp 1), none, false⟩,
 ⟨(some 16), .move (.tmp 0), none, true⟩,
 ⟨(some 17), .move (.tmp 3), none, true⟩,
 ⟨(some 18), .move (.tmp 0), none, false⟩,
 ⟨(some 19), .move (.tmp 3), none, false⟩,
 ⟨(some 20), .iaddr 2 (.tmp 18) (.tmp 19), none, false⟩,
 ⟨(some 21), .load 2 true (.tmp 20), none, false⟩,
 ⟨(some 22), .move (.tmp 0), none, false⟩,
 ⟨(some 23), .move (.tmp 1), none, false⟩,
 ⟨(some 24), .iaddr 2 (.tmp 22) (.tmp 23), none, false⟩,
 ⟨(some 25), .load 2 true (.tmp 24), none, false⟩,
 ⟨(some 26), .iaddr 2 (.tmp 14) (.tmp 15), none, false⟩,
 ⟨none, .store 2 (.tmp 26) (.tmp 21), none, false⟩,
 ⟨(some 27), .iaddr 2 (.tmp 16) (.tmp 17), none, false⟩,
 ⟨none, .store 2 (.tmp 27) (.tmp 25), none, false⟩])
 (.seq (.region false [⟨(some 28), .move (.tmp 1), none, false⟩,
 ⟨(some 29), .bin .add 3 (.tmp 28) (.const (.int .i64 1)), none, false⟩,
 ⟨(some 30), .move (.tmp 2), none, false⟩,
 ⟨(some 31), .bin .sub 3 (.tmp 30) (.const (.int .i64 1)), none, false⟩,
 ⟨(some 12), .move (.tmp 29), none, false⟩,
 ⟨(some 13), .move (.tmp 31), none, false⟩])
 (.seq (.block 0 (.loop ac58_L1))
 (.seq (.block 2 (.loop ac58_L2))
 (.seq (.seq (.region false [⟨(some 69), .move (.tmp 12), none, false⟩,
 ⟨(some 70), .move (.tmp 13), none, false⟩,
 ⟨(some 71), .bin .gtr 3 (.tmp 69) (.tmp 70), none, false⟩])
 (.cond (.tmp 71)
 (.seq (.region true [⟨(some 72), .move (.tmp 0), none, false⟩,
 ⟨(some 73), .move (.tmp 13), none, false⟩,
 ⟨(some 74), .move (.tmp 0), none, true⟩,
 ⟨(some 75), .move (.tmp 1), none, true⟩,
 ⟨(some 76), .move (.tmp 0), none, false⟩,
 ⟨(some 77), .move (.tmp 1), none, false⟩,
 ⟨(some 78), .iaddr 2 (.tmp 76) (.tmp 77), none, false⟩,
 ⟨(some 79), .load 2 true (.tmp 78), none, false⟩,
 ⟨(some 80), .move (.tmp 0), none, false⟩,
 ⟨(some 81), .move (.tmp 13), none, false⟩,
 ⟨(some 82), .iaddr 2 (.tmp 80) (.tmp 81), none, false⟩,
 ⟨(some 83), .load 2 true (.tmp 82), none, false⟩,
 ⟨(some 84), .iaddr 2 (.tmp 72) (.tmp 73), none, false⟩,
 ⟨none, .store 2 (.tmp 84) (.tmp 79), none, false⟩,
 ⟨(some 85), .iaddr 2 (.tmp 74) (.tmp 75), none, false⟩,
 ⟨none, .store 2 (.tmp 85) (.tmp 83), none, false⟩])
 (.seq (.region false [⟨(some 86), .move (.tmp 13), none, false⟩,
 ⟨(some 10), .move (.tmp 86), none, false⟩,
 ⟨(some 11), .move (.const (.bool true)), none, false⟩])
 (.ret)))
 (.skip)))
 (.seq (.region true [⟨(some 87), .move (.tmp 0), none, false⟩,
 ⟨(some 88), .move (.tmp 12), none, false⟩,
 ⟨(some 89), .move (.tmp 0), none, true⟩,
 ⟨(some 90), .move (.tmp 13), none, true⟩,
 ⟨(some 91), .move (.tmp 0), none, false⟩,
 ⟨(some 92), .move (.tmp 13), none, false⟩,
 ⟨(some 93), .iaddr 2 (.tmp 91) (.tmp 92), none, false⟩,
 ⟨(some 94), .load 2 true (.tmp 93), none, false⟩,
 ⟨(some 95), .move (.tmp 0), none, false⟩,
 ⟨(some 96), .move (.tmp 12), none, false⟩,
 ⟨(some 97), .iaddr 2 (.tmp 95) (.tmp 96), none, false⟩,
 ⟨(some 98), .load 2 true (.tmp 97), none, false⟩,
 ⟨(some 99), .iaddr 2 (.tmp 87) (.tmp 88), none, false⟩,
 ⟨none, .store 2 (.tmp 99) (.tmp 94), none, false⟩,
 ⟨(some 100), .iaddr 2 (.tmp 89) (.tmp 90), none, false⟩,
 ⟨none, .store 2 (.tmp 100) (.tmp 98), none, false⟩])
 (.seq (.region false [⟨(some 101), .move (.tmp 12), none, false⟩,
 ⟨(some 102), .bin .add 3 (.tmp 101) (.const (.int .i64 1)), none, false⟩,
 ⟨(some 12), .move (.tmp 102), none, false⟩])
 (.seq (.region false [⟨(some 103), .move (.tmp 13), none, false⟩,
 ⟨(some 104), .bin .sub 3 (.tmp 103) (.const (.int .i64 1)), none, false⟩,
 ⟨(some 13), .move (.tmp 104), none, false⟩])
 (.seq (.block 4 (.loop ac58_L3))
 (.seq (.region true [⟨(some 163), .move (.tmp 0), none, false⟩,
 ⟨(some 164), .move (.tmp 13), none, false⟩,
 ⟨(some 165), .move (.tmp 0), none, true⟩,
 ⟨(some 166), .move (.tmp 1), none, true⟩,
 ⟨(some 167), .move (.tmp 0), none, false⟩,
 ⟨(some 168), .move (.tmp 1), none, false⟩,
 ⟨(some 169), .iaddr 2 (.tmp 167) (.tmp 168), none, false⟩,
 ⟨(some 170), .load 2 true (.tmp 169), none, false⟩,
 ⟨(some 171), .move (.tmp 0), none, false⟩,
 ⟨(some 172), .move (.tmp 13), none, false⟩,
 ⟨(some 173), .iaddr 2 (.tmp 171) (.tmp 172), none, false⟩,
 ⟨(some 174), .load 2 true (.tmp 173), none, false⟩,
 ⟨(some 175), .iaddr 2 (.tmp 163) (.tmp 164), none, false⟩,
 ⟨none, .store 2 (.tmp 175) (.tmp 170), none, false⟩,
 ⟨(some 176), .iaddr 2 (.tmp 165) (.tmp 166), none, false⟩,
 ⟨none, .store 2 (.tmp 176) (.tmp 174), none, false⟩])
 (.seq (.region false [⟨(some 177), .move (.tmp 13), none, false⟩,
 ⟨(some 10), .move (.tmp 177), none, false⟩,
 ⟨(some 11), .move (.const (.bool false)), none, false⟩])
 (.ret))))))))))))
theorem text58 : FnText Try.prog 58 [] 178 5 ac58 [(10, none), (11, none)] :=
 ⟨Try.call58, follows, Try.f58, _, Try.func58, rfl, rfl, by decide, by kernel_rfl, by kernel_rfl⟩


/-- patchbay/expr.Fields$1 -/
def ac25 : AC :=
 .seq (.region false [⟨(some 2), .box false 68 (.tmp 0), none, false⟩,
 ⟨(some 3), .box false 68 (.tmp 1), none, false⟩,
 ⟨(some 4), .move (.const (.int .i64 0)), none, false⟩])
 (.seq (.region true [⟨(some 5), .faddr 0 1 false (.tmp 2), none, false⟩,
 ⟨(some 6), .load 1 false (.tmp 5), none, false⟩,
 ⟨(some 7), .faddr 0 1 false (.tmp 3), none, false⟩,
 ⟨(some 8), .load 1 false (.tmp 7), none, false⟩,
 ⟨(some 9), .call (.func 27) [(.tmp 6), (.tmp 8)], none, false⟩,
 ⟨(some 10), .faddr 1 1 false (.tmp 2), none, false⟩,
 ⟨(some 11), .load 1 false (.tmp 10), none, false⟩,
 ⟨(some 12), .faddr 1 1 false (.tmp 3), none, false⟩,
 ⟨(some 13), .load 1 false (.tmp 12), none, false⟩,
 ⟨(some 14), .call (.func 27) [(.tmp 11), (.tmp 13)], none, false⟩,
 ⟨(some 15), .bslice false 3 1 false [(.tmp 9), (.tmp 14)], none, false⟩,
 ⟨(some 16), .call (.func 26) [(.tmp 15)], none, false⟩,
 ⟨(some 4), .move (.tmp 16), none, false⟩])
 (.ret))
theorem text25 : FnText Try.prog 25 [] 17 2 ac25 [(4, none)] :=
 ⟨Try.call25, follows, Try.f25, _, Try.func25, rfl, rfl, by decide, by kernel_rfl, by kernel_rfl⟩


/-- cmp.Compare[int] -/
def ac27 : AC :=
 .seq (.region false [⟨(some 4), .move (.const (.int .i64 0)), none, false⟩])
 (.seq (.region false [⟨(some 7), .move (.tmp 0), none, false⟩,
 ⟨(some 8), .call (.func 38) [(.tmp 7)], none, false⟩,
 ⟨(some 5), .move (.tmp 8), none, false⟩])
 (.seq (.region false [⟨(some 9), .move (.tmp 1), none, false⟩,
 ⟨(some 10), .call (.func 38) [(.tmp 9)], none, false⟩,
 ⟨(some 6), .move (.tmp 10), none, false⟩])
 (.seq (.seq (.region false [⟨(some 11), .move (.tmp 5), none, false⟩])
 (.cond (.tmp 11)
 (.seq (.seq (.region false [⟨(some 12), .move (.tmp 6), none, false⟩])
 (.cond (.tmp 12)
 (.seq (.region false [⟨(some 4), .move (.const (.int .i64 0)), none, false⟩])
 (.ret))
 (.skip)))
 (.seq (.region false [⟨(some 4), .move (.const (.int .i64 (-1))), none, false⟩])
 (.ret)))
 (.skip)))
 (.seq (.seq (.region false [⟨(some 13), .move (.tmp 6), none, false⟩])
 (.cond (.tmp 13)
 (.seq (.region false [⟨(some 4), .move (.const (.int .i64 1)), none, false⟩])
 (.ret))
 (.skip)))
 (.seq (.seq (.region false [⟨(some 14), .move (.tmp 0), none, false⟩,
 ⟨(some 15), .move (.tmp 1), none, false⟩,
 ⟨(some 16), .bin .lss 3 (.tmp 14) (.tmp 15), none, false⟩])
 (.cond (.tmp 16)
 (.seq (.region false [⟨(some 4), .move (.const (.int .i64 (-1))), none, false⟩])
 (.ret))
 (.skip)))
 (.seq (.seq (.region false [⟨(some 17), .move (.tmp 0), none, false⟩,
 ⟨(some 18), .move (.tmp 1), none, false⟩,
 ⟨(some 19), .bin .gtr 3 (.tmp 17) (.tmp 18), none, false⟩])
 (.cond (.tmp 19)
 (.seq (.region false [⟨(some 4), .move (.const (.int .i64 1)), none, false⟩])
 (.ret))
 (.skip)))
 (.seq (.region false [⟨(some 4), .move (.const (.int .i64 0)), none, false⟩])
 (.ret))))))))
theorem text27 : FnText Try.prog 27 [] 20 2 ac27 [(4, none)] :=
 ⟨Try.call27, follows, Try.f27, _, Try.func27, rfl, rfl, by decide, by kernel_rfl, by kernel_rfl⟩


/-- cmp.isNaN[int] -/
def ac38 : AC :=
 .seq (.region false [⟨(some 2), .move (.const (.bool false)), none, false⟩])
 (.seq (.region false [⟨(some 3), .move (.tmp 0), none, false⟩,
 ⟨(some 4), .move (.tmp 0), none, false⟩,
 ⟨(some 5), .bin .neq 3 (.tmp 3) (.tmp 4), none, false⟩,
 ⟨(some 2), .move (.tmp 5), none, false⟩])
 (.ret))
theorem text38 : FnText Try.prog 38 [] 6 1 ac38 [(2, none)] :=
 ⟨Try.call38, follows, Try.f38, _, Try.func38, rfl, rfl, by decide, by kernel_rfl, by kernel_rfl⟩

def ac26_L1 : AC :=
 .seq (.region false [⟨(some 9), .bin .lss 3 (.tmp 8) (.tmp 7), none, false⟩])
 (.seq (.cond (.tmp 9)
 (.skip)
 (.exit 0))
 (.seq (.block 1 (.seq (.region false [⟨(some 10), .iaddr 1 (.tmp 6) (.tmp 8), none, false⟩,
 ⟨(some 11), .load 1 false (.tmp 10), none, false⟩,
 ⟨(some 5), .move (.tmp 11), none, false⟩])
 (.seq (.region false [⟨(some 12), .move (.tmp 5), none, false⟩,
 ⟨(some 13), .move (.tmp 3), none, false⟩,
 ⟨(some 14), .bin .neq 3 (.tmp 12) (.tmp 13), none, false⟩])
 (.cond (.tmp 14)
 (.seq (.region false [⟨(some 15), .move (.tmp 5), none, false⟩,
 ⟨(some 2), .move (.tmp 15), none, false⟩])
 (.ret))
 (.skip)))))
 (.region false [⟨(some 16), .bin .add 3 (.tmp 8) (.const (.int .i64 1)), none, false⟩,
 ⟨(some 8), .move (.tmp 16), none, false⟩])))
/-- cmp.Or[int] -/
def ac26 : AC :=
 .seq (.region false [⟨(some 2), .move (.const (.int .i64 0)), none, false⟩])
 (.seq (.region false [⟨(some 3), .move (.const (.int .i64 0)), none, false⟩])
 (.seq (.seq (.region false [⟨(some 6), .move (.tmp 0), none, false⟩,
 ⟨(some 7), .bi .len [29].toArray 3 [(.tmp 6)], none, false⟩,
 ⟨(some 8), .move (.const (.int .i64 0)), none, false⟩])
 (.block 0 (.loop ac26_L1)))
 (.seq (.region false [⟨(some 17), .move (.tmp 3), none, false⟩,
 ⟨(some 2), .move (.tmp 17), none, false⟩])
 (.ret))))
theorem text26 : FnText Try.prog 26 [] 18 1 ac26 [(2, none)] :=
 ⟨Try.call26, follows, Try.f26, _, Try.func26, rfl, rfl, by decide, by kernel_rfl, by kernel_rfl⟩

def ac28_L2 : AC :=
 .seq (.seq (.region false [⟨(some 29), .move (.tmp 5), none, false⟩,
 ⟨(some 30), .move (.tmp 4), none, false⟩,
 ⟨(some 31), .bi .len [65].toArray 3 [(.tmp 30)], none, false⟩,
 ⟨(some 32), .bin .lss 3 (.tmp 29) (.tmp 31), none, false⟩])
 (.cond (.tmp 32)
 (.skip)
 (.exit 2)))
 (.seq (.block 3 (.seq (.region true [⟨(some 35), .move (.tmp 4), none, false⟩,
 ⟨(some 36), .move (.tmp 5), none, false⟩,
 ⟨(some 37), .iaddr 2 (.tmp 35) (.tmp 36), none, false⟩,
 ⟨(some 38), .load 2 true (.tmp 37), none, false⟩,
 ⟨(some 39), .move (.tmp 4), none, false⟩,
 ⟨(some 40), .move (.tmp 5), none, false⟩,
 ⟨(some 41), .bin .sub 3 (.tmp 40) (.const (.int .i64 1)), none, false⟩,
 ⟨(some 42), .iaddr 2 (.tmp 39) (.tmp 41), none, false⟩,
 ⟨(some 43), .load 2 true (.tmp 42), none, false⟩,
 ⟨(some 44), .bin .neq 68 (.tmp 38) (.tmp 43), none, false⟩])
 (.cond (.tmp 44)
 (.seq (.region false [⟨(some 45), .move (.tmp 0), none, false⟩,
 ⟨(some 46), .move (.tmp 3), none, false⟩,
 ⟨(some 47), .move (.tmp 4), none, false⟩,
 ⟨(some 48), .move (.tmp 5), none, false⟩,
 ⟨(some 49), .iaddr 2 (.tmp 47) (.tmp 48), none, false⟩,
 ⟨(some 50), .load 2 true (.tmp 49), none, false⟩,
 ⟨(some 51), .iaddr 2 (.tmp 45) (.tmp 46), none, false⟩,
 ⟨none, .store 2 (.tmp 51) (.tmp 50), none, false⟩])
 (.region false [⟨(some 52), .move (.tmp 3), none, false⟩,
 ⟨(some 53), .bin .add 3 (.tmp 52) (.const (.int .i64 1)), none, false⟩,
 ⟨(some 3), .move (.tmp 53), none, false⟩]))
 (.skip))))
 (.region false [⟨(some 33), .move (.tmp 5), none, false⟩,
 ⟨(some 34), .bin .add 3 (.tmp 33) (.const (.int .i64 1)), none, false⟩,
 ⟨(some 5), .move (.tmp 34), none, false⟩]))
def ac28_L1 : AC :=
 .seq (.seq (.region false [⟨(some 10), .move (.tmp 3), none, false⟩,
 ⟨(some 11), .move (.tmp 0), none, false⟩,
 ⟨(some 12), .bi .len [65].toArray 3 [(.tmp 11)], none, false⟩,
 ⟨(some 13), .bin .lss 3 (.tmp 10) (.tmp 12), none, false⟩])
 (.cond (.tmp 13)
 (.skip)
 (.exit 0)))
 (.seq (.block 1 (.seq (.region true [⟨(some 16), .move (.tmp 0), none, false⟩,
 ⟨(some 17), .move (.tmp 3), none, false⟩,
 ⟨(some 18), .iaddr 2 (.tmp 16) (.tmp 17), none, false⟩,
 ⟨(some 19), .load 2 true (.tmp 18), none, false⟩,
 ⟨(some 20), .move (.tmp 0), none, false⟩,
 ⟨(some 21), .move (.tmp 3), none, false⟩,
 ⟨(some 22), .bin .sub 3 (.tmp 21) (.const (.int .i64 1)), none, false⟩,
 ⟨(some 23), .iaddr 2 (.tmp 20) (.tmp 22), none, false⟩,
 ⟨(some 24), .load 2 true (.tmp 23), none, false⟩,
 ⟨(some 25), .bin .eql 68 (.tmp 19) (.tmp 24), none, false⟩])
 (.cond (.tmp 25)
 (.seq (.region false [⟨(some 26), .move (.tmp 0), none, false⟩,
 ⟨(some 27), .move (.tmp 3), none, false⟩,
 ⟨(some 28), .slice 65 2 (.tmp 26) (some (.tmp 27)) none none, none, false⟩,
 ⟨(some 4), .move (.tmp 28), none, false⟩])
 (.seq (.seq (.region false [⟨(some 5), .move (.const (.int .i64 1)), none, false⟩])
 (.block 2 (.loop ac28_L2)))
 (.seq (.region false [⟨(some 54), .move (.tmp 0), none, false⟩,
 ⟨(some 55), .move (.tmp 3), none, false⟩,
 ⟨(some 56), .slice 65 2 (.tmp 54) (some (.tmp 55)) none none, none, false⟩,
 ⟨none, .copy 0 0 0 (.const (.bool false)) (.const (.bool false)), none, false⟩])
 (.seq (.region false [⟨(some 57), .move (.tmp 0), none, false⟩,
 ⟨(some 58), .move (.tmp 3), none, false⟩,
 ⟨(some 59), .slice 65 2 (.tmp 57) none (some (.tmp 58)) none, none, false⟩,
 ⟨(some 2), .move (.tmp 59), none, false⟩])
 (.ret)))))
 (.skip))))
 (.region false [⟨(some 14), .move (.tmp 3), none, false⟩,
 ⟨(some 15), .bin .add 3 (.tmp 14) (.const (.int .i64 1)), none, false⟩,
 ⟨(some 3), .move (.tmp 15), none, false⟩]))
/-- slices.Compact[[]patchbay/api.FieldRef,patchbay/api.FieldRef] -/
def ac28 : AC :=
 .seq (.region false [⟨(some 2), .move (.const (.slice none 0 0)), none, false⟩])
 (.seq (.seq (.region false [⟨(some 6), .move (.tmp 0), none, false⟩,
 ⟨(some 7), .bi .len [65].toArray 3 [(.tmp 6)], none, false⟩,
 ⟨(some 8), .bin .lss 3 (.tmp 7) (.const (.int .i64 2)), none, false⟩])
 (.cond (.tmp 8)
 (.seq (.region false [⟨(some 9), .move (.tmp 0), none, false⟩,
 ⟨(some 2), .move (.tmp 9), none, false⟩])
 (.ret))
 (.skip)))
 (.seq (.seq (.region false [⟨(some 3), .move (.const (.int .i64 1)), none, false⟩])
 (.block 0 (.loop ac28_L1)))
 (.seq (.region false [⟨(some 60), .move (.tmp 0), none, false⟩,
 ⟨(some 2), .move (.tmp 60), none, false⟩])
 (.ret))))
theorem text28 : FnText Try.prog 28 [] 61 1 ac28 [(2, none)] :=
 ⟨Try.call28, follows, Try.f28, _, Try.func28, rfl, rfl, by decide, by kernel_rfl, by kernel_rfl⟩

def ac15_L1 : AC :=
 .seq (.seq (.region false [⟨(some 11), .move (.tmp 5), none, false⟩,
 ⟨(some 12), .move (.tmp 0), none, false⟩,
 ⟨(some 13), .bi .len [65].toArray 3 [(.tmp 12)], none, false⟩,
 ⟨(some 14), .bin .lss 3 (.tmp 11) (.tmp 13), none, false⟩])
 (.cond (.tmp 14)
 (.skip)
 (.exit 0)))
 (.seq (.block 1 (.seq (.region true [⟨(some 17), .move (.tmp 0), none, false⟩,
 ⟨(some 18), .move (.tmp 5), none, false⟩,
 ⟨(some 19), .iaddr 2 (.tmp 17) (.tmp 18), none, false⟩,
 ⟨(some 20), .load 2 true (.tmp 19), none, false⟩,
 ⟨(some 21), .move (.tmp 1), none, false⟩,
 ⟨(some 22), .move (.tmp 5), none, false⟩,
 ⟨(some 23), .iaddr 2 (.tmp 21) (.tmp 22), none, false⟩,
 ⟨(some 24), .load 2 true (.tmp 23), none, false⟩,
 ⟨(some 25), .bin .neq 68 (.tmp 20) (.tmp 24), none, false⟩])
 (.cond (.tmp 25)
 (.seq (.region false [⟨(some 4), .move (.const (.bool false)), none, false⟩])
 (.ret))
 (.skip))))
 (.region false [⟨(some 15), .move (.tmp 5), none, false⟩,
 ⟨(some 16), .bin .add 3 (.tmp 15) (.const (.int .i64 1)), none, false⟩,
 ⟨(some 5), .move (.tmp 16), none, false⟩]))
/-- patchbay/patchbayref13.EqualFields -/
def ac15 : AC :=
 .seq (.region false [⟨(some 4), .move (.const (.bool false)), none, false⟩])
 (.seq (.seq (.region false [⟨(some 6), .move (.tmp 0), none, false⟩,
 ⟨(some 7), .bi .len [65].toArray 3 [(.tmp 6)], none, false⟩,
 ⟨(some 8), .move (.tmp 1), none, false⟩,
 ⟨(some 9), .bi .len [65].toArray 3 [(.tmp 8)], none, false⟩,
 ⟨(some 10), .bin .neq 3 (.tmp 7) (.tmp 9), none, false⟩])
 (.cond (.tmp 10)
 (.seq (.region false [⟨(some 4), .move (.const (.bool false)), none, false⟩])
 (.ret))
 (.skip)))
 (.seq (.seq (.region false [⟨(some 5), .move (.const (.int .i64 0)), none, false⟩])
 (.block 0 (.loop ac15_L1)))
 (.seq (.region false [⟨(some 4), .move (.const (.bool true)), none, false⟩])
 (.ret))))
theorem text15 : FnText Try.prog 15 [] 26 2 ac15 [(4, none)] :=
 ⟨Try.call15, follows, Try.f15, _, Try.func15, rfl, rfl, by decide, by kernel_rfl, by kernel_rfl⟩

def ac18_L1 : AC :=
 .seq (.region false [⟨(some 9), .bin .lss 3 (.tmp 8) (.tmp 7), none, false⟩])
 (.seq (.cond (.tmp 9)
 (.skip)
 (.exit 0))
 (.seq (.block 1 (.seq (.region false [⟨(some 10), .iaddr 3 (.tmp 6) (.tmp 8), none, false⟩,
 ⟨(some 11), .load 3 true (.tmp 10), none, false⟩,
 ⟨(some 5), .alloc true 53 (.agg [(.int .i64 0), (.int .i64 0), (.int .i64 0)].toArray), none, false⟩,
 ⟨none, .store 3 (.tmp 5) (.tmp 11), none, false⟩])
 (.seq (.region false [⟨(some 12), .faddr 0 1 false (.tmp 5), none, false⟩,
 ⟨(some 13), .load 1 false (.tmp 12), none, false⟩,
 ⟨(some 14), .bin .eql 3 (.tmp 13) (.const (.int .i64 4)), none, false⟩])
 (.cond (.tmp 14)
 (.region false [⟨(some 15), .move (.tmp 3), none, false⟩,
 ⟨(some 16), .faddr 1 1 false (.tmp 5), none, false⟩,
 ⟨(some 17), .load 1 false (.tmp 16), none, false⟩,
 ⟨(some 18), .bslice false 3 1 false [(.tmp 17)], none, false⟩,
 ⟨(some 19), .append 29 3 1 8 (.tmp 15) (.tmp 18), none, false⟩,
 ⟨(some 3), .move (.tmp 19), none, false⟩])
 (.skip)))))
 (.region false [⟨(some 20), .bin .add 3 (.tmp 8) (.const (.int .i64 1)), none, false⟩,
 ⟨(some 8), .move (.tmp 20), none, false⟩])))
/-- patchbay/expr.Headers -/
def ac18 : AC :=
 .seq (.region false [⟨(some 2), .move (.const (.slice none 0 0)), none, false⟩])
 (.seq (.region false [⟨(some 3), .move (.const (.slice none 0 0)), none, false⟩])
 (.seq (.seq (.region false [⟨(some 6), .move (.tmp 0), none, false⟩,
 ⟨(some 7), .bi .len [32].toArray 3 [(.tmp 6)], none, false⟩,
 ⟨(some 8), .move (.const (.int .i64 0)), none, false⟩])
 (.block 0 (.loop ac18_L1)))
 (.seq (.region false [⟨(some 21), .move (.tmp 3), none, false⟩,
 ⟨(some 22), .call (.func 29) [(.tmp 21)], none, false⟩])
 (.seq (.region false [⟨(some 23), .move (.tmp 3), none, false⟩,
 ⟨(some 24), .call (.func 30) [(.tmp 23)], none, false⟩,
 ⟨(some 2), .move (.tmp 24), none, false⟩])
 (.ret)))))
theorem text18 : FnText Try.prog 18 [5] 25 1 ac18 [(2, none)] :=
 ⟨Try.call18, follows, Try.f18, _, Try.func18, rfl, rfl, by decide, by kernel_rfl, by kernel_rfl⟩


/-- slices.Sort[[]int,int] -/
def ac29 : AC :=
 .seq (.region false [⟨(some 3), .move (.tmp 0), none, false⟩,
 ⟨(some 4), .bi .len [29].toArray 3 [(.tmp 3)], none, false⟩,
 ⟨(some 2), .move (.tmp 4), none, false⟩])
 (.region false [⟨(some 5), .move (.tmp 0), none, false⟩,
 ⟨(some 6), .move (.tmp 2), none, false⟩,
 ⟨(some 7), .move (.tmp 2), none, false⟩,
 ⟨(some 8), .conv 3 97 (.tmp 7), none, false⟩,
 ⟨(some 9), .call (.func 37) [(.tmp 8)], none, false⟩,
 ⟨(some 10), .call (.func 39) [(.tmp 5), (.const (.int .i64 0)), (.tmp 6), (.tmp 9)], none, false⟩])
theorem text29 : FnText Try.prog 29 [] 11 1 ac29 [] :=
 ⟨Try.call29, follows, Try.f29, _, Try.func29, rfl, rfl, by decide, by kernel_rfl, by kernel_rfl⟩

def ac39_G1 : List AOper :=
 [⟨(some 63), .move (.tmp 9), (some (62, true)), false⟩,
 ⟨(some 64), .pick (.tmp 62) (.tmp 63) (.const (.bool false)), none, false⟩]
def ac39_G2 : List AOper :=
 [⟨(some 66), .move (.tmp 12), (some (65, true)), false⟩,
 ⟨(some 67), .bin .eql 111 (.tmp 66) (.const (.int .i64 1)), (some (65, true)), false⟩,
 ⟨(some 68), .pick (.tmp 65) (.tmp 67) (.const (.bool false)), none, false⟩]
def ac39_G3 : List AOper :=
 [⟨(some 76), .move (.tmp 0), (some (75, true)), false⟩,
 ⟨(some 77), .move (.tmp 1), (some (75, true)), false⟩,
 ⟨(some 78), .bin .sub 3 (.tmp 77) (.const (.int .i64 1)), (some (75, true)), false⟩,
 ⟨(some 79), .iaddr 1 (.tmp 76) (.tmp 78), (some (75, true)), false⟩,
 ⟨(some 80), .load 1 false (.tmp 79), (some (75, true)), false⟩,
 ⟨(some 81), .move (.tmp 0), (some (75, true)), false⟩,
 ⟨(some 82), .move (.tmp 11), (some (75, true)), false⟩,
 ⟨(some 83), .iaddr 1 (.tmp 81) (.tmp 82), (some (75, true)), false⟩,
 ⟨(some 84), .load 1 false (.tmp 83), (some (75, true)), false⟩,
 ⟨(some 85), .call (.func 67) [(.tmp 80), (.tmp 84)], (some (75, true)), false⟩,
 ⟨(some 86), .un .not (.tmp 85), (some (75, true)), false⟩,
 ⟨(some 87), .pick (.tmp 75) (.tmp 86) (.const (.bool false)), none, false⟩]
def ac39_L1 : AC :=
 .block 1 (.seq (.region false [⟨(some 19), .move (.tmp 2), none, false⟩,
 ⟨(some 20), .move (.tmp 1), none, false⟩,
 ⟨(some 21), .bin .sub 3 (.tmp 19) (.tmp 20), none, false⟩,
 ⟨(some 10), .move (.tmp 21), none, false⟩])
 (.seq (.seq (.region false [⟨(some 22), .move (.tmp 10), none, false⟩,
 ⟨(some 23), .bin .leq 3 (.tmp 22) (.const (.int .i64 12)), none, false⟩])
 (.cond (.tmp 23)
 (.seq (.region false [⟨(some 24), .move (.tmp 0), none, false⟩,
 ⟨(some 25), .move (.tmp 1), none, false⟩,
 ⟨(some 26), .move (.tmp 2), none, false⟩,
 ⟨(some 27), .call (.func 61) [(.tmp 24), (.tmp 25), (.tmp 26)], none, false⟩])
 (.ret))
 (.skip)))
 (.seq (.seq (.region false [⟨(some 28), .move (.tmp 3), none, false⟩,
 ⟨(some 29), .bin .eql 3 (.tmp 28) (.const (.int .i64 0)), none, false⟩])
 (.cond (.tmp 29)
 (.seq (.region false [⟨(some 30), .move (.tmp 0), none, false⟩,
 ⟨(some 31), .move (.tmp 1), none, false⟩,
 ⟨(some 32), .move (.tmp 2), none, false⟩,
 ⟨(some 33), .call (.func 62) [(.tmp 30), (.tmp 31), (.tmp 32)], none, false⟩])
 (.ret))
 (.skip)))
 (.seq (.seq (.region false [⟨(some 34), .move (.tmp 8), none, false⟩,
 ⟨(some 35), .un .not (.tmp 34), none, false⟩])
 (.cond (.tmp 35)
 (.seq (.region false [⟨(some 36), .move (.tmp 0), none, false⟩,
 ⟨(some 37), .move (.tmp 1), none, false⟩,
 ⟨(some 38), .move (.tmp 2), none, false⟩,
 ⟨(some 39), .call (.func 63) [(.tmp 36), (.tmp 37), (.tmp 38)], none, false⟩])
 (.region false [⟨(some 40), .move (.tmp 3), none, false⟩,
 ⟨(some 41), .bin .sub 3 (.tmp 40) (.const (.int .i64 1)), none, false⟩,
 ⟨(some 3), .move (.tmp 41), none, false⟩]))
 (.skip)))
 (.seq (.region false [⟨(some 43), .move (.tmp 0), none, false⟩,
 ⟨(some 44), .move (.tmp 1), none, false⟩,
 ⟨(some 45), .move (.tmp 2), none, false⟩,
 ⟨(some 46), .call (.func 64) [(.tmp 43), (.tmp 44), (.tmp 45)], none, false⟩,
 ⟨(some 42), .move (.tmp 46), none, false⟩,
 ⟨(some 47), .extract (.tmp 42) 0, none, false⟩,
 ⟨(some 48), .extract (.tmp 42) 1, none, false⟩,
 ⟨(some 11), .move (.tmp 47), none, false⟩,
 ⟨(some 12), .move (.tmp 48), none, false⟩])
 (.seq (.seq (.region false [⟨(some 49), .move (.tmp 12), none, false⟩,
 ⟨(some 50), .bin .eql 111 (.tmp 49) (.const (.int .i64 2)), none, false⟩])
 (.cond (.tmp 50)
 (.seq (.region false [⟨(some 51), .move (.tmp 0), none, false⟩,
 ⟨(some 52), .move (.tmp 1), none, false⟩,
 ⟨(some 53), .move (.tmp 2), none, false⟩,
 ⟨(some 54), .call (.func 65) [(.tmp 51), (.tmp 52), (.tmp 53)], none, false⟩])
 (.seq (.region false [⟨(some 55), .move (.tmp 2), none, false⟩,
 ⟨(some 56), .bin .sub 3 (.tmp 55) (.const (.int .i64 1)), none, false⟩,
 ⟨(some 57), .move (.tmp 11), none, false⟩,
 ⟨(some 58), .move (.tmp 1), none, false⟩,
 ⟨(some 59), .bin .sub 3 (.tmp 57) (.tmp 58), none, false⟩,
 ⟨(some 60), .bin .sub 3 (.tmp 56) (.tmp 59), none, false⟩,
 ⟨(some 11), .move (.tmp 60), none, false⟩])
 (.region false [⟨(some 12), .move (.const (.int .i64 1)), none, false⟩])))
 (.skip)))
 (.seq (.seq (.region false (⟨(some 61), .move (.tmp 8), none, false⟩ :: ⟨(some 62), .move (.tmp 61), none, false⟩ :: (ac39_G1 ++ (⟨(some 65), .move (.tmp 64), none, false⟩ :: (ac39_G2 ++ [])))))
 (.cond (.tmp 68)
 (.seq (.region false [⟨(some 69), .move (.tmp 0), none, false⟩,
 ⟨(some 70), .move (.tmp 1), none, false⟩,
 ⟨(some 71), .move (.tmp 2), none, false⟩,
 ⟨(some 72), .call (.func 66) [(.tmp 69), (.tmp 70), (.tmp 71)], none, false⟩])
 (.cond (.tmp 72)
 (.ret)
 (.skip)))
 (.skip)))
 (.seq (.seq (.region true (⟨(some 73), .move (.tmp 1), none, false⟩ :: ⟨(some 74), .bin .gtr 3 (.tmp 73) (.const (.int .i64 0)), none, false⟩ :: ⟨(some 75), .move (.tmp 74), none, false⟩ :: (ac39_G3 ++ [])))
 (.cond (.tmp 87)
 (.seq (.region false [⟨(some 88), .move (.tmp 0), none, false⟩,
 ⟨(some 89), .move (.tmp 1), none, false⟩,
 ⟨(some 90), .move (.tmp 2), none, false⟩,
 ⟨(some 91), .move (.tmp 11), none, false⟩,
 ⟨(some 92), .call (.func 68) [(.tmp 88), (.tmp 89), (.tmp 90), (.tmp 91)], none, false⟩,
 ⟨(some 13), .move (.tmp 92), none, false⟩])
 (.seq (.region false [⟨(some 93), .move (.tmp 13), none, false⟩,
 ⟨(some 1), .move (.tmp 93), none, false⟩])
 (.exit 1)))
 (.skip)))
 (.seq (.region false [⟨(some 95), .move (.tmp 0), none, false⟩,
 ⟨(some 96), .move (.tmp 1), none, false⟩,
 ⟨(some 97), .move (.tmp 2), none, false⟩,
 ⟨(some 98), .move (.tmp 11), none, false⟩,
 ⟨(some 99), .call (.func 69) [(.tmp 95), (.tmp 96), (.tmp 97), (.tmp 98)], none, false⟩,
 ⟨(some 94), .move (.tmp 99), none, false⟩,
 ⟨(some 100), .extract (.tmp 94) 0, none, false⟩,
 ⟨(some 101), .extract (.tmp 94) 1, none, false⟩,
 ⟨(some 14), .move (.tmp 100), none, false⟩,
 ⟨(some 15), .move (.tmp 101), none, false⟩])
 (.seq (.region false [⟨(some 102), .move (.tmp 15), none, false⟩,
 ⟨(some 9), .move (.tmp 102), none, false⟩])
 (.seq (.region false [⟨(some 103), .move (.tmp 14), none, false⟩,
 ⟨(some 104), .move (.tmp 1), none, false⟩,
 ⟨(some 105), .bin .sub 3 (.tmp 103) (.tmp 104), none, false⟩,
 ⟨(some 106), .move (.tmp 2), none, false⟩,
 ⟨(some 107), .move (.tmp 14), none, false⟩,
 ⟨(some 108), .bin .sub 3 (.tmp 106) (.tmp 107), none, false⟩,
 ⟨(some 16), .move (.tmp 105), none, false⟩,
 ⟨(some 17), .move (.tmp 108), none, false⟩])
 (.seq (.region false [⟨(some 109), .move (.tmp 10), none, false⟩,
 ⟨(some 110), .bin .quo 3 (.tmp 109) (.const (.int .i64 8)), none, false⟩,
 ⟨(some 18), .move (.tmp 110), none, false⟩])
 (.seq (.region false [⟨(some 111), .move (.tmp 16), none, false⟩,
 ⟨(some 112), .move (.tmp 17), none, false⟩,
 ⟨(some 113), .bin .lss 3 (.tmp 111) (.tmp 112), none, false⟩])
 (.cond (.tmp 113)
 (.seq (.region false [⟨(some 114), .move (.tmp 16), none, false⟩,
 ⟨(some 115), .move (.tmp 18), none, false⟩,
 ⟨(some 116), .bin .geq 3 (.tmp 114) (.tmp 115), none, false⟩,
 ⟨(some 8), .move (.tmp 116), none, false⟩])
 (.seq (.region false [⟨(some 117), .move (.tmp 0), none, false⟩,
 ⟨(some 118), .move (.tmp 1), none, false⟩,
 ⟨(some 119), .move (.tmp 14), none, false⟩,
 ⟨(some 120), .move (.tmp 3), none, false⟩,
 ⟨(some 121), .call (.func 39) [(.tmp 117), (.tmp 118), (.tmp 119), (.tmp 120)], none, false⟩])
 (.region false [⟨(some 122), .move (.tmp 14), none, false⟩,
 ⟨(some 123), .bin .add 3 (.tmp 122) (.const (.int .i64 1)), none, false⟩,
 ⟨(some 1), .move (.tmp 123), none, false⟩])))
 (.seq (.region false [⟨(some 124), .move (.tmp 17), none, false⟩,
 ⟨(some 125), .move (.tmp 18), none, false⟩,
 ⟨(some 126), .bin .geq 3 (.tmp 124) (.tmp 125), none, false⟩,
 ⟨(some 8), .move (.tmp 126), none, false⟩])
 (.seq (.region false [⟨(some 127), .move (.tmp 0), none, false⟩,
 ⟨(some 128), .move (.tmp 14), none, false⟩,
 ⟨(some 129), .bin .add 3 (.tmp 128) (.const (.int .i64 1)), none, false⟩,
 ⟨(some 130), .move (.tmp 2), none, false⟩,
 ⟨(some 131), .move (.tmp 3), none, false⟩,
 ⟨(some 132), .call (.func 39) [(.tmp 127), (.tmp 129), (.tmp 130), (.tmp 131)], none, false⟩])
 (.region false [⟨(some 133), .move (.tmp 14), none, false⟩,
 ⟨(some 2), .move (.tmp 133), none, false⟩])))))))))))))))))
/-- slices.pdqsortOrdered[int] -/
def ac39 : AC :=
 .seq (.region false [⟨(some 8), .move (.const (.bool true)), none, false⟩])
 (.seq (.region false [⟨(some 9), .move (.const (.bool true)), none, false⟩])
 (.block 0 (.loop ac39_L1)))
theorem text39 : FnText Try.prog 39 [] 134 4 ac39 [] :=
 ⟨Try.call39, follows, Try.f39, _, Try.func39, rfl, rfl, by decide, by kernel_rfl, by kernel_rfl⟩

def ac61_G1 : List AOper :=
 [⟨(some 20), .move (.tmp 0), (some (19, true)), false⟩,
 ⟨(some 21), .move (.tmp 7), (some (19, true)), false⟩,
 ⟨(some 22), .iaddr 1 (.tmp 20) (.tmp 21), (some (19, true)), false⟩,
 ⟨(some 23), .load 1 false (.tmp 22), (some (19, true)), false⟩,
 ⟨(some 24), .move (.tmp 0), (some (19, true)), false⟩,
 ⟨(some 25), .move (.tmp 7), (some (19, true)), false⟩,
 ⟨(some 26), .bin .sub 3 (.tmp 25) (.const (.int .i64 1)), (some (19, true)), false⟩,
 ⟨(some 27), .iaddr 1 (.tmp 24) (.tmp 26), (some (19, true)), false⟩,
 ⟨(some 28), .load 1 false (.tmp 27), (some (19, true)), false⟩,
 ⟨(some 29), .call (.func 67) [(.tmp 23), (.tmp 28)], (some (19, true)), false⟩,
 ⟨(some 30), .pick (.tmp 19) (.tmp 29) (.const (.bool false)), none, false⟩]
def ac61_L2 : AC :=
 .seq (.seq (.region true (⟨(some 16), .move (.tmp 7), none, false⟩ :: ⟨(some 17), .move (.tmp 1), none, false⟩ :: ⟨(some 18), .bin .gtr 3 (.tmp 16) (.tmp 17), none, false⟩ :: ⟨(some 19), .move (.tmp 18), none, false⟩ :: (ac61_G1 ++ [])))
 (.cond (.tmp 30)
 (.skip)
 (.exit 2)))
 (.seq (.block 3 (.region true [⟨(some 33), .move (.tmp 0), none, false⟩,
 ⟨(some 34), .move (.tmp 7), none, false⟩,
 ⟨(some 35), .move (.tmp 0), none, true⟩,
 ⟨(some 36), .move (.tmp 7), none, true⟩,
 ⟨(some 37), .bin .sub 3 (.tmp 36) (.const (.int .i64 1)), none, true⟩,
 ⟨(some 38), .move (.tmp 0), none, false⟩,
 ⟨(some 39), .move (.tmp 7), none, false⟩,
 ⟨(some 40), .bin .sub 3 (.tmp 39) (.const (.int .i64 1)), none, false⟩,
 ⟨(some 41), .iaddr 1 (.tmp 38) (.tmp 40), none, false⟩,
 ⟨(some 42), .load 1 false (.tmp 41), none, false⟩,
 ⟨(some 43), .move (.tmp 0), none, false⟩,
 ⟨(some 44), .move (.tmp 7), none, false⟩,
 ⟨(some 45), .iaddr 1 (.tmp 43) (.tmp 44), none, false⟩,
 ⟨(some 46), .load 1 false (.tmp 45), none, false⟩,
 ⟨(some 47), .iaddr 1 (.tmp 33) (.tmp 34), none, false⟩,
 ⟨none, .store 1 (.tmp 47) (.tmp 42), none, false⟩,
 ⟨(some 48), .iaddr 1 (.tmp 35) (.tmp 37), none, false⟩,
 ⟨none, .store 1 (.tmp 48) (.tmp 46), none, false⟩]))
 (.region false [⟨(some 31), .move (.tmp 7), none, false⟩,
 ⟨(some 32), .bin .sub 3 (.tmp 31) (.const (.int .i64 1)), none, false⟩,
 ⟨(some 7), .move (.tmp 32), none, false⟩]))
def ac61_L1 : AC :=
 .seq (.seq (.region false [⟨(some 10), .move (.tmp 6), none, false⟩,
 ⟨(some 11), .move (.tmp 2), none, false⟩,
 ⟨(some 12), .bin .lss 3 (.tmp 10) (.tmp 11), none, false⟩])
 (.cond (.tmp 12)
 (.skip)
 (.exit 0)))
 (.seq (.block 1 (.seq (.region false [⟨(some 15), .move (.tmp 6), none, false⟩,
 ⟨(some 7), .move (.tmp 15), none, false⟩])
 (.block 2 (.loop ac61_L2))))
 (.region false [⟨(some 13), .move (.tmp 6), none, false⟩,
 ⟨(some 14), .bin .add 3 (.tmp 13) (.const (.int .i64 1)), none, false⟩,
 ⟨(some 6), .move (.tmp 14), none, false⟩]))
/-- slices.insertionSortOrdered[int] -/
def ac61 : AC :=
 .seq (.region false [⟨(some 8), .move (.tmp 1), none, false⟩,
 ⟨(some 9), .bin .add 3 (.tmp 8) (.const (.int .i64 1)), none, false⟩,
 ⟨(some 6), .move (.tmp 9), none, false⟩])
 (.block 0 (.loop ac61_L1))
theorem text61 : FnText Try.prog 61 [] 49 3 ac61 [] :=
 ⟨Try.call61, follows, Try.f61, _, Try.func61, rfl, rfl, by decide, by kernel_rfl, by kernel_rfl⟩

def ac67_G1 : List AOper :=
 [⟨(some 8), .move (.tmp 1), (some (7, true)), false⟩,
 ⟨(some 9), .call (.func 38) [(.tmp 8)], (some (7, true)), false⟩,
 ⟨(some 10), .un .not (.tmp 9), (some (7, true)), false⟩,
 ⟨(some 11), .pick (.tmp 7) (.tmp 10) (.const (.bool false)), none, false⟩]
def ac67_G2 : List AOper :=
 [⟨(some 13), .move (.tmp 0), (some (12, false)), false⟩,
 ⟨(some 14), .move (.tmp 1), (some (12, false)), false⟩,
 ⟨(some 15), .bin .lss 3 (.tmp 13) (.tmp 14), (some (12, false)), false⟩,
 ⟨(some 16), .pick (.tmp 12) (.const (.bool true)) (.tmp 15), none, false⟩]
/-- cmp.Less[int] -/
def ac67 : AC :=
 .seq (.region false [⟨(some 4), .move (.const (.bool false)), none, false⟩])
 (.seq (.region false (⟨(some 5), .move (.tmp 0), none, false⟩ :: ⟨(some 6), .call (.func 38) [(.tmp 5)], none, false⟩ :: ⟨(some 7), .move (.tmp 6), none, false⟩ :: (ac67_G1 ++ (⟨(some 12), .move (.tmp 11), none, false⟩ :: (ac67_G2 ++ [⟨(some 4), .move (.tmp 16), none, false⟩])))))
 (.ret))
theorem text67 : FnText Try.prog 67 [] 17 2 ac67 [(4, none)] :=
 ⟨Try.call67, follows, Try.f67, _, Try.func67, rfl, rfl, by decide, by kernel_rfl, by kernel_rfl⟩

def ac62_L1 : AC :=
 .seq (.seq (.region false [⟨(some 18), .move (.tmp 9), none, false⟩,
 ⟨(some 19), .bin .geq 3 (.tmp 18) (.const (.int .i64 0)), none, false⟩])
 (.cond (.tmp 19)
 (.skip)
 (.exit 0)))
 (.seq (.block 1 (.region false [⟨(some 22), .move (.tmp 0), none, false⟩,
 ⟨(some 23), .move (.tmp 9), none, false⟩,
 ⟨(some 24), .move (.tmp 8), none, false⟩,
 ⟨(some 25), .move (.tmp 6), none, false⟩,
 ⟨(some 26), .call (.func 76) [(.tmp 22), (.tmp 23), (.tmp 24), (.tmp 25)], none, false⟩]))
 (.region false [⟨(some 20), .move (.tmp 9), none, false⟩,
 ⟨(some 21), .bin .sub 3 (.tmp 20) (.const (.int .i64 1)), none, false⟩,
 ⟨(some 9), .move (.tmp 21), none, false⟩]))
def ac62_L2 : AC :=
 .seq (.seq (.region false [⟨(some 29), .move (.tmp 10), none, false⟩,
 ⟨(some 30), .bin .geq 3 (.tmp 29) (.const (.int .i64 0)), none, false⟩])
 (.cond (.tmp 30)
 (.skip)
 (.exit 2)))
 (.seq (.block 3 (.seq (.region true [⟨(some 33), .move (.tmp 0), none, false⟩,
 ⟨(some 34), .move (.tmp 6), none, false⟩,
 ⟨(some 35), .move (.tmp 0), none, true⟩,
 ⟨(some 36), .move (.tmp 6), none, true⟩,
 ⟨(some 37), .move (.tmp 10), none, true⟩,
 ⟨(some 38), .bin .add 3 (.tmp 36) (.tmp 37), none, true⟩,
 ⟨(some 39), .move (.tmp 0), none, false⟩,
 ⟨(some 40), .move (.tmp 6), none, false⟩,
 ⟨(some 41), .move (.tmp 10), none, false⟩,
 ⟨(some 42), .bin .add 3 (.tmp 40) (.tmp 41), none, false⟩,
 ⟨(some 43), .iaddr 1 (.tmp 39) (.tmp 42), none, false⟩,
 ⟨(some 44), .load 1 false (.tmp 43), none, false⟩,
 ⟨(some 45), .move (.tmp 0), none, false⟩,
 ⟨(some 46), .move (.tmp 6), none, false⟩,
 ⟨(some 47), .iaddr 1 (.tmp 45) (.tmp 46), none, false⟩,
 ⟨(some 48), .load 1 false (.tmp 47), none, false⟩,
 ⟨(some 49), .iaddr 1 (.tmp 33) (.tmp 34), none, false⟩,
 ⟨none, .store 1 (.tmp 49) (.tmp 44), none, false⟩,
 ⟨(some 50), .iaddr 1 (.tmp 35) (.tmp 38), none, false⟩,
 ⟨none, .store 1 (.tmp 50) (.tmp 48), none, false⟩])
 (.region false [⟨(some 51), .move (.tmp 0), none, false⟩,
 ⟨(some 52), .move (.tmp 7), none, false⟩,
 ⟨(some 53), .move (.tmp 10), none, false⟩,
 ⟨(some 54), .move (.tmp 6), none, false⟩,
 ⟨(some 55), .call (.func 76) [(.tmp 51), (.tmp 52), (.tmp 53), (.tmp 54)], none, false⟩])))
 (.region false [⟨(some 31), .move (.tmp 10), none, false⟩,
 ⟨(some 32), .bin .sub 3 (.tmp 31) (.const (.int .i64 1)), none, false⟩,
 ⟨(some 10), .move (.tmp 32), none, false⟩]))
/-- slices.heapSortOrdered[int] -/
def ac62 : AC :=
 .seq (.region false [⟨(some 11), .move (.tmp 1), none, false⟩,
 ⟨(some 6), .move (.tmp 11), none, false⟩])
 (.seq (.region false [⟨(some 7), .move (.const (.int .i64 0)), none, false⟩])
 (.seq (.region false [⟨(some 12), .move (.tmp 2), none, false⟩,
 ⟨(some 13), .move (.tmp 1), none, false⟩,
 ⟨(some 14), .bin .sub 3 (.tmp 12) (.tmp 13), none, false⟩,
 ⟨(some 8), .move (.tmp 14), none, false⟩])
 (.seq (.seq (.region false [⟨(some 15), .move (.tmp 8), none, false⟩,
 ⟨(some 16), .bin .sub 3 (.tmp 15) (.const (.int .i64 1)), none, false⟩,
 ⟨(some 17), .bin .quo 3 (.tmp 16) (.const (.int .i64 2)), none, false⟩,
 ⟨(some 9), .move (.tmp 17), none, false⟩])
 (.block 0 (.loop ac62_L1)))
 (.seq (.region false [⟨(some 27), .move (.tmp 8), none, false⟩,
 ⟨(some 28), .bin .sub 3 (.tmp 27) (.const (.int .i64 1)), none, false⟩,
 ⟨(some 10), .move (.tmp 28), none, false⟩])
 (.block 2 (.loop ac62_L2))))))
theorem text62 : FnText Try.prog 62 [] 56 3 ac62 [] :=
 ⟨Try.call62, follows, Try.f62, _, Try.func62, rfl, rfl, by decide, by kernel_rfl, by kernel_rfl⟩

end Go.Proofs.Ytfekghenlhoamaa
