/-
 The text of each function of this seat, as the plain library tells it; each by the kernel's own reckoning from the program.
-/
import Derived.Test.YtfekghenlhoamaaGreatPbWp
import Derived.Test.YtfekghenlhoamaaGreatRows
set_option linter.unusedVariables false
set_option maxRecDepth 100000
namespace Go.Proofs.YtfekghenlhoamaaGreat
open Go Go.Pb
abbrev q_ (d : Nat) (o : AOp) : AOper := ⟨some d, o, none, false⟩
abbrev t_ (n : Nat) : Operand := .tmp n
abbrev k_ (i : Int) : Operand := .const (.int .i64 i)
theorem follows : Tryz.prog.follows .mixedOrders = true := by kernel_rfl
def ac4_G1 : List AOper :=
 [⟨(some 87), .move (t_ 7), (some (86, false)), false⟩,
 ⟨(some 88), .bin .neq 57 (t_ 87) (k_ 0), (some (86, false)), false⟩,
 (q_ 89 (.pick (t_ 86) (.const (.bool true)) (t_ 88)))]
def ac4_G2 : List AOper :=
 [⟨(some 91), .move (t_ 8), (some (90, false)), false⟩,
 ⟨(some 92), .bin .neq 3 (t_ 91) (k_ 12), (some (90, false)), false⟩,
 (q_ 93 (.pick (t_ 90) (.const (.bool true)) (t_ 92)))]
def ac4_G3 : List AOper :=
 [⟨(some 95), .move (t_ 9), (some (94, false)), false⟩,
 ⟨(some 96), .bin .neq 57 (t_ 95) (k_ 0), (some (94, false)), false⟩,
 (q_ 97 (.pick (t_ 94) (.const (.bool true)) (t_ 96)))]
def ac4_G4 : List AOper :=
 [⟨(some 99), .move (t_ 11), (some (98, false)), false⟩,
 ⟨(some 100), .bin .neq 57 (t_ 99) (k_ 10), (some (98, false)), false⟩,
 (q_ 101 (.pick (t_ 98) (.const (.bool true)) (t_ 100)))]
def ac4_G5 : List AOper :=
 [⟨(some 103), .move (t_ 13), (some (102, false)), false⟩,
 ⟨(some 104), .bin .neq 57 (t_ 103) (k_ 3), (some (102, false)), false⟩,
 (q_ 105 (.pick (t_ 102) (.const (.bool true)) (t_ 104)))]
def ac4_G6 : List AOper :=
 [⟨(some 107), .move (t_ 15), (some (106, false)), false⟩,
 ⟨(some 108), .bin .neq 57 (t_ 107) (k_ 4), (some (106, false)), false⟩,
 (q_ 109 (.pick (t_ 106) (.const (.bool true)) (t_ 108)))]
def ac4_G7 : List AOper :=
 [⟨(some 116), .move (t_ 4), (some (115, true)), false⟩,
 ⟨(some 117), .load 10 true (t_ 2), (some (115, true)), false⟩,
 ⟨(some 118), .load 4 true (t_ 16), (some (115, true)), false⟩,
 ⟨(some 119), .call (.func 5) [(t_ 116), (t_ 117), (t_ 118), (.const (.slice none 0 0))], (some (115, true)), false⟩,
 ⟨(some 120), .bin .eql 42 (t_ 119) (.const (.int .u32 1289)), (some (115, true)), false⟩,
 (q_ 121 (.pick (t_ 115) (t_ 120) (.const (.bool false))))]
def ac4_G8 : List AOper :=
 [⟨(some 123), .move (t_ 5), (some (122, true)), false⟩,
 ⟨(some 124), .load 10 true (t_ 2), (some (122, true)), false⟩,
 ⟨(some 125), .load 4 true (t_ 16), (some (122, true)), false⟩,
 ⟨(some 126), .call (.func 5) [(t_ 123), (t_ 124), (t_ 125), (.const (.slice none 0 0))], (some (122, true)), false⟩,
 ⟨(some 127), .bin .eql 42 (t_ 126) (.const (.int .u32 33)), (some (122, true)), false⟩,
 (q_ 128 (.pick (t_ 122) (t_ 127) (.const (.bool false))))]
def ac4_G9 : List AOper :=
 [⟨(some 130), .move (t_ 5), (some (129, true)), false⟩,
 ⟨(some 131), .load 10 true (t_ 2), (some (129, true)), false⟩,
 ⟨(some 132), .load 4 true (t_ 17), (some (129, true)), false⟩,
 ⟨(some 133), .call (.func 5) [(t_ 130), (t_ 131), (t_ 132), (.const (.slice none 0 0))], (some (129, true)), false⟩,
 ⟨(some 134), .bin .eql 42 (t_ 133) (.const (.int .u32 7)), (some (129, true)), false⟩,
 (q_ 135 (.pick (t_ 129) (t_ 134) (.const (.bool false))))]
def ac4_G10 : List AOper :=
 [⟨(some 137), .call (.func 8) [(k_ 1)], (some (136, true)), false⟩,
 ⟨(some 138), .call (.func 8) [(k_ 1)], (some (136, true)), false⟩,
 ⟨(some 139), .bslice false 55 3 false [(t_ 137), (t_ 138)], (some (136, true)), false⟩,
 ⟨(some 140), .call (.func 10) [(t_ 139), (k_ 0)], (some (136, true)), false⟩,
 ⟨(some 141), .bin .eql 3 (t_ 140) (k_ 1), (some (136, true)), false⟩,
 (q_ 142 (.pick (t_ 136) (t_ 141) (.const (.bool false))))]
def ac4_G11 : List AOper :=
 [⟨(some 144), .move (t_ 5), (some (143, true)), false⟩,
 ⟨(some 145), .call (.func 12) [(t_ 144)], (some (143, true)), false⟩,
 ⟨(some 146), .build [(.int .i64 0), (.int .i64 0)] [], (some (143, true)), false⟩,
 ⟨(some 147), .bslice false 65 2 false [(t_ 146)], (some (143, true)), false⟩,
 ⟨(some 148), .call (.func 11) [(t_ 145), (t_ 147)], (some (143, true)), false⟩,
 (q_ 149 (.pick (t_ 143) (t_ 148) (.const (.bool false))))]
def ac4_G12 : List AOper :=
 [⟨(some 151), .move (t_ 5), (some (150, true)), false⟩,
 ⟨(some 152), .call (.func 14) [(t_ 151)], (some (150, true)), false⟩,
 ⟨(some 153), .bslice false 3 1 false [(k_ 0)], (some (150, true)), false⟩,
 ⟨(some 154), .call (.func 13) [(t_ 152), (t_ 153)], (some (150, true)), false⟩,
 (q_ 155 (.pick (t_ 150) (t_ 154) (.const (.bool false))))]
/-- patchbay/patchbaylaw13.awake -/
def ac4 : AC :=
 .seq (.region false [(q_ 0 (.move (.const (.bool false))))])
 (.seq (.region false [⟨(some 18), .build [(.string ⟨[].toArray⟩), (.int .i64 0)] [(0, 1, (.const (.string ⟨[102].toArray⟩))), (1, 1, (k_ 8))], none, false⟩,
 (q_ 19 (.bslice false 51 2 false [(t_ 18)])),
 ⟨(some 20), .build [(.string ⟨[].toArray⟩), (.slice none 0 0)] [(0, 1, (.const (.string ⟨[104].toArray⟩))), (1, 1, (t_ 19))], none, false⟩,
 (q_ 21 (.bslice false 53 2 false [(t_ 20)])),
 ⟨(some 22), .build [(.string ⟨[].toArray⟩), (.slice none 0 0), (.slice none 0 0), (.slice none 0 0), (.slice none 0 0), (.slice none 0 0), (.slice none 0 0), (.slice none 0 0), (.slice none 0 0)] [(1, 1, (t_ 21))], none, false⟩,
 ⟨(some 1), .alloc true 31 (.agg [(.string ⟨[].toArray⟩), (.slice none 0 0), (.slice none 0 0), (.slice none 0 0), (.slice none 0 0), (.slice none 0 0), (.slice none 0 0), (.slice none 0 0), (.slice none 0 0)].toArray), none, false⟩,
 ⟨none, .store 9 (t_ 1) (t_ 22), none, false⟩])
 (.seq (.region false [(q_ 23 (.load 9 true (t_ 1))),
 ⟨(some 24), .build [(.string ⟨[].toArray⟩), (.int .i64 0)] [(0, 1, (.const (.string ⟨[118].toArray⟩))), (1, 1, (k_ 4))], none, false⟩,
 (q_ 25 (.bslice false 51 2 false [(t_ 24)])),
 ⟨(some 26), .build [(.string ⟨[].toArray⟩), (.slice none 0 0), (.slice none 0 0), (.slice none 0 0), (.slice none 0 0), (.slice none 0 0), (.slice none 0 0), (.slice none 0 0), (.slice none 0 0), (.slice none 0 0)] [(0, 9, (t_ 23)), (9, 1, (t_ 25))], none, false⟩,
 ⟨(some 2), .alloc true 45 (.agg [(.string ⟨[].toArray⟩), (.slice none 0 0), (.slice none 0 0), (.slice none 0 0), (.slice none 0 0), (.slice none 0 0), (.slice none 0 0), (.slice none 0 0), (.slice none 0 0), (.slice none 0 0)].toArray), none, false⟩,
 ⟨none, .store 10 (t_ 2) (t_ 26), none, false⟩])
 (.seq (.region false [(q_ 27 (.build [(.int .i64 0), (.int .i64 0), (.int .i64 0)] [(0, 1, (k_ 9))])),
 (q_ 28 (.call (.func 8) [(k_ 250)])),
 (q_ 29 (.call (.func 8) [(k_ 10)])),
 (q_ 30 (.bslice false 55 3 false [(t_ 27), (t_ 28), (t_ 29)])),
 (q_ 3 (.move (t_ 30)))])
 (.seq (.region false [(q_ 31 (.build [(.int .i64 0), (.int .i64 0), (.int .i64 0)] [(0, 1, (k_ 14))])),
 (q_ 32 (.build [(.int .i64 0), (.int .i64 0), (.int .i64 0)] [(0, 1, (k_ 1)), (1, 1, (k_ 5)), (2, 1, (k_ 4))])),
 (q_ 33 (.call (.func 8) [(k_ 9)])),
 (q_ 34 (.bslice false 55 3 false [(t_ 31), (t_ 32), (t_ 33)])),
 (q_ 4 (.move (t_ 34)))])
 (.seq (.region false [(q_ 35 (.build [(.int .i64 0), (.int .i64 0), (.int .i64 0)] [(0, 1, (k_ 17))])),
 (q_ 36 (.build [(.int .i64 0), (.int .i64 0), (.int .i64 0)] [(0, 1, (k_ 4))])),
 (q_ 37 (.build [(.int .i64 0), (.int .i64 0), (.int .i64 0)] [(0, 1, (k_ 2))])),
 (q_ 38 (.call (.func 8) [(k_ 7)])),
 (q_ 39 (.bslice false 55 3 false [(t_ 35), (t_ 36), (t_ 37), (t_ 38)])),
 (q_ 5 (.move (t_ 39)))])
 (.seq (.region false [(q_ 41 (.move (t_ 3))),
 (q_ 42 (.load 10 true (t_ 2))),
 (q_ 43 (.call (.func 9) [(t_ 41), (t_ 42)])),
 (q_ 40 (.move (t_ 43))),
 (q_ 44 (.extract (t_ 40) 0)),
 (q_ 45 (.extract (t_ 40) 1)),
 (q_ 6 (.move (t_ 44))),
 (q_ 7 (.move (t_ 45)))])
 (.seq (.region false [(q_ 47 (.move (t_ 4))),
 (q_ 48 (.load 10 true (t_ 2))),
 (q_ 49 (.call (.func 9) [(t_ 47), (t_ 48)])),
 (q_ 46 (.move (t_ 49))),
 (q_ 50 (.extract (t_ 46) 0)),
 (q_ 51 (.extract (t_ 46) 1)),
 (q_ 8 (.move (t_ 50))),
 (q_ 9 (.move (t_ 51)))])
 (.seq (.region true [(q_ 53 (.build [(.int .i64 0), (.int .i64 0), (.int .i64 0)] [(0, 1, (k_ 9))])),
 (q_ 54 (.call (.func 8) [(k_ 1)])),
 (q_ 55 (.build [(.int .i64 0), (.int .i64 0), (.int .i64 0)] [(0, 1, (k_ 3))])),
 (q_ 56 (.bslice false 55 3 false [(t_ 53), (t_ 54), (t_ 55)])),
 (q_ 57 (.load 10 true (t_ 2))),
 (q_ 58 (.call (.func 9) [(t_ 56), (t_ 57)])),
 (q_ 52 (.move (t_ 58))),
 (q_ 59 (.extract (t_ 52) 0)),
 (q_ 60 (.extract (t_ 52) 1)),
 (q_ 10 (.move (t_ 59))),
 (q_ 11 (.move (t_ 60)))])
 (.seq (.region true [(q_ 62 (.move (t_ 3))),
 (q_ 63 (.slice 32 3 (t_ 62) none (some (k_ 2)) none)),
 (q_ 64 (.load 10 true (t_ 2))),
 (q_ 65 (.call (.func 9) [(t_ 63), (t_ 64)])),
 (q_ 61 (.move (t_ 65))),
 (q_ 66 (.extract (t_ 61) 0)),
 (q_ 67 (.extract (t_ 61) 1)),
 (q_ 12 (.move (t_ 66))),
 (q_ 13 (.move (t_ 67)))])
 (.seq (.region true [(q_ 69 (.call (.func 8) [(k_ 1)])),
 (q_ 70 (.call (.func 8) [(k_ 1)])),
 (q_ 71 (.bslice false 55 3 false [(t_ 69), (t_ 70)])),
 (q_ 72 (.load 10 true (t_ 2))),
 (q_ 73 (.call (.func 9) [(t_ 71), (t_ 72)])),
 (q_ 68 (.move (t_ 73))),
 (q_ 74 (.extract (t_ 68) 0)),
 (q_ 75 (.extract (t_ 68) 1)),
 (q_ 14 (.move (t_ 74))),
 (q_ 15 (.move (t_ 75)))])
 (.seq (.region false [(q_ 76 (.bslice false 4 1 false [(.const (.bool true))])),
 (q_ 77 (.bslice false 42 1 false [(.const (.int .u32 33))])),
 (q_ 78 (.bslice false 35 1 false [(t_ 77)])),
 (q_ 79 (.build [(.slice none 0 0), (.slice none 0 0), (.slice none 0 0), (.slice none 0 0)] [(0, 1, (t_ 76)), (1, 1, (t_ 78))])),
 (q_ 16 (.alloc true 38 (.agg [(.slice none 0 0), (.slice none 0 0), (.slice none 0 0), (.slice none 0 0)].toArray))),
 ⟨none, .store 4 (t_ 16) (t_ 79), none, false⟩])
 (.seq (.region false [(q_ 80 (.bslice false 4 1 false [(.const (.bool false))])),
 (q_ 81 (.bslice false 42 1 false [(.const (.int .u32 0))])),
 (q_ 82 (.bslice false 35 1 false [(t_ 81)])),
 (q_ 83 (.build [(.slice none 0 0), (.slice none 0 0), (.slice none 0 0), (.slice none 0 0)] [(0, 1, (t_ 80)), (1, 1, (t_ 82))])),
 (q_ 17 (.alloc true 38 (.agg [(.slice none 0 0), (.slice none 0 0), (.slice none 0 0), (.slice none 0 0)].toArray))),
 ⟨none, .store 4 (t_ 17) (t_ 83), none, false⟩])
 (.seq (.seq (.region false ((q_ 84 (.move (t_ 6))) :: (q_ 85 (.bin .neq 3 (t_ 84) (k_ 8))) :: (q_ 86 (.move (t_ 85))) :: (ac4_G1 ++ ((q_ 90 (.move (t_ 89))) :: (ac4_G2 ++ ((q_ 94 (.move (t_ 93))) :: (ac4_G3 ++ ((q_ 98 (.move (t_ 97))) :: (ac4_G4 ++ ((q_ 102 (.move (t_ 101))) :: (ac4_G5 ++ ((q_ 106 (.move (t_ 105))) :: (ac4_G6 ++ [])))))))))))))
 (.cond (t_ 109)
 (.seq (.region false [(q_ 0 (.move (.const (.bool false))))])
 (.ret))
 (.skip)))
 (.seq (.region false ((q_ 110 (.move (t_ 3))) :: (q_ 111 (.load 10 true (t_ 2))) :: (q_ 112 (.load 4 true (t_ 16))) :: (q_ 113 (.call (.func 5) [(t_ 110), (t_ 111), (t_ 112), (.const (.slice none 0 0))])) :: (q_ 114 (.bin .eql 42 (t_ 113) (.const (.int .u32 4)))) :: (q_ 115 (.move (t_ 114))) :: (ac4_G7 ++ ((q_ 122 (.move (t_ 121))) :: (ac4_G8 ++ ((q_ 129 (.move (t_ 128))) :: (ac4_G9 ++ ((q_ 136 (.move (t_ 135))) :: (ac4_G10 ++ ((q_ 143 (.move (t_ 142))) :: (ac4_G11 ++ ((q_ 150 (.move (t_ 149))) :: (ac4_G12 ++ [(q_ 0 (.move (t_ 155)))])))))))))))))
 (.ret)))))))))))))))
theorem text4 : FnText Tryz.prog 4 [1, 2, 16, 17] 156 0 ac4 [(0, none)] :=
 ⟨Tryz.call4, follows, Tryz.f4, _, Tryz.func4, rfl, rfl, by decide, by kernel_rfl, by kernel_rfl⟩


/-- (patchbay/patchbaylaw13.Args).scope -/
def ac6 : AC :=
 .seq (.region false [(q_ 1 (.box false 40 (t_ 0))),
 ⟨(some 2), .alloc true 45 (.agg [(.string ⟨[].toArray⟩), (.slice none 0 0), (.slice none 0 0), (.slice none 0 0), (.slice none 0 0), (.slice none 0 0), (.slice none 0 0), (.slice none 0 0), (.slice none 0 0), (.slice none 0 0)].toArray), none, false⟩])
 (.seq (.region false [(q_ 3 (.faddr 0 9 true (t_ 1))),
 (q_ 4 (.load 9 true (t_ 3))),
 (q_ 5 (.faddr 9 1 false (t_ 1))),
 (q_ 6 (.load 1 false (t_ 5))),
 ⟨(some 7), .build [(.string ⟨[].toArray⟩), (.slice none 0 0), (.slice none 0 0), (.slice none 0 0), (.slice none 0 0), (.slice none 0 0), (.slice none 0 0), (.slice none 0 0), (.slice none 0 0), (.slice none 0 0)] [(0, 9, (t_ 4)), (9, 1, (t_ 6))], none, false⟩,
 ⟨none, .store 10 (t_ 2) (t_ 7), none, false⟩])
 (.ret))
theorem text6 : FnText Tryz.prog 6 [2] 8 1 ac6 [(2, some (10, true))] :=
 ⟨Tryz.call6, follows, Tryz.f6, _, Tryz.func6, rfl, rfl, by decide, by kernel_rfl, by kernel_rfl⟩


/-- patchbay/expr.arity -/
def ac19 : AC :=
 .seq (.region false [(q_ 2 (.move (k_ 0)))])
 (.seq (.seq (.region false [(q_ 3 (.move (t_ 0)))])
 (.block 0 (.seq (.seq (.region false [(q_ 5 (.bin .eql 3 (t_ 3) (k_ 1))),
 (q_ 4 (.move (t_ 5)))])
 (.cond (t_ 4)
 (.skip)
 (.seq (.region false [(q_ 6 (.bin .eql 3 (t_ 3) (k_ 2))),
 (q_ 4 (.move (t_ 6)))])
 (.cond (t_ 4)
 (.skip)
 (.seq (.region false [(q_ 7 (.bin .eql 3 (t_ 3) (k_ 3))),
 (q_ 4 (.move (t_ 7)))])
 (.cond (t_ 4)
 (.skip)
 (.region false [(q_ 8 (.bin .eql 3 (t_ 3) (k_ 4))),
 (q_ 4 (.move (t_ 8)))])))))))
 (.cond (t_ 4)
 (.seq (.region false [(q_ 2 (.move (k_ 0)))])
 (.ret))
 (.seq (.seq (.region false [(q_ 10 (.bin .eql 3 (t_ 3) (k_ 5))),
 (q_ 9 (.move (t_ 10)))])
 (.cond (t_ 9)
 (.skip)
 (.seq (.region false [(q_ 11 (.bin .eql 3 (t_ 3) (k_ 6))),
 (q_ 9 (.move (t_ 11)))])
 (.cond (t_ 9)
 (.skip)
 (.seq (.region false [(q_ 12 (.bin .eql 3 (t_ 3) (k_ 7))),
 (q_ 9 (.move (t_ 12)))])
 (.cond (t_ 9)
 (.skip)
 (.region false [(q_ 13 (.bin .eql 3 (t_ 3) (k_ 8))),
 (q_ 9 (.move (t_ 13)))])))))))
 (.cond (t_ 9)
 (.seq (.region false [(q_ 2 (.move (k_ 1)))])
 (.ret))
 (.seq (.seq (.region false [(q_ 15 (.bin .eql 3 (t_ 3) (k_ 9))),
 (q_ 14 (.move (t_ 15)))])
 (.cond (t_ 14)
 (.skip)
 (.seq (.region false [(q_ 16 (.bin .eql 3 (t_ 3) (k_ 10))),
 (q_ 14 (.move (t_ 16)))])
 (.cond (t_ 14)
 (.skip)
 (.seq (.region false [(q_ 17 (.bin .eql 3 (t_ 3) (k_ 11))),
 (q_ 14 (.move (t_ 17)))])
 (.cond (t_ 14)
 (.skip)
 (.seq (.region false [(q_ 18 (.bin .eql 3 (t_ 3) (k_ 12))),
 (q_ 14 (.move (t_ 18)))])
 (.cond (t_ 14)
 (.skip)
 (.seq (.region false [(q_ 19 (.bin .eql 3 (t_ 3) (k_ 13))),
 (q_ 14 (.move (t_ 19)))])
 (.cond (t_ 14)
 (.skip)
 (.seq (.region false [(q_ 20 (.bin .eql 3 (t_ 3) (k_ 14))),
 (q_ 14 (.move (t_ 20)))])
 (.cond (t_ 14)
 (.skip)
 (.seq (.region false [(q_ 21 (.bin .eql 3 (t_ 3) (k_ 15))),
 (q_ 14 (.move (t_ 21)))])
 (.cond (t_ 14)
 (.skip)
 (.region false [(q_ 22 (.bin .eql 3 (t_ 3) (k_ 16))),
 (q_ 14 (.move (t_ 22)))])))))))))))))))
 (.cond (t_ 14)
 (.seq (.region false [(q_ 2 (.move (k_ 2)))])
 (.ret))
 (.seq (.region false [(q_ 24 (.bin .eql 3 (t_ 3) (k_ 17))),
 (q_ 23 (.move (t_ 24)))])
 (.cond (t_ 23)
 (.seq (.region false [(q_ 2 (.move (k_ 3)))])
 (.ret))
 (.skip)))))))))))
 (.seq (.region false [(q_ 2 (.move (.const (.int .i64 (-1)))))])
 (.ret)))
theorem text19 : FnText Tryz.prog 19 [] 25 1 ac19 [(2, none)] :=
 ⟨Tryz.call19, follows, Tryz.f19, _, Tryz.func19, rfl, rfl, by decide, by kernel_rfl, by kernel_rfl⟩

def ac65_G1 : List AOper :=
 [⟨(some 7), .move (t_ 0), (some (6, false)), false⟩,
 ⟨(some 8), .bin .gtr 3 (t_ 7) (k_ 32), (some (6, false)), false⟩,
 (q_ 9 (.pick (t_ 6) (.const (.bool true)) (t_ 8)))]
/-- patchbay/expr.wide -/
def ac65 : AC :=
 .seq (.region false [(q_ 2 (.move (k_ 0))),
 (q_ 3 (.move (k_ 0)))])
 (.seq (.seq (.region false ((q_ 4 (.move (t_ 0))) :: (q_ 5 (.bin .lss 3 (t_ 4) (k_ 1))) :: (q_ 6 (.move (t_ 5))) :: (ac65_G1 ++ [])))
 (.cond (t_ 9)
 (.seq (.region false [(q_ 2 (.move (k_ 0))),
 (q_ 3 (.move (k_ 10)))])
 (.ret))
 (.skip)))
 (.seq (.region false [(q_ 10 (.move (t_ 0))),
 (q_ 2 (.move (t_ 10))),
 (q_ 3 (.move (k_ 0)))])
 (.ret)))
theorem text65 : FnText Tryz.prog 65 [] 11 1 ac65 [(2, none), (3, none)] :=
 ⟨Tryz.call65, follows, Tryz.f65, _, Tryz.func65, rfl, rfl, by decide, by kernel_rfl, by kernel_rfl⟩

def ac87_G1 : List AOper :=
 [⟨(some 14), .move (t_ 4), (some (13, false)), false⟩,
 ⟨(some 15), .bin .gtr 3 (t_ 14) (k_ 32), (some (13, false)), false⟩,
 (q_ 16 (.pick (t_ 13) (.const (.bool true)) (t_ 15)))]
def ac87_L1 : AC :=
 .seq (.region false [(q_ 8 (.bin .lss 3 (t_ 7) (t_ 6)))])
 (.seq (.cond (t_ 8)
 (.skip)
 (.exit 0))
 (.seq (.block 1 (.seq (.region false [(q_ 9 (.iaddr 1 (t_ 5) (t_ 7))),
 (q_ 10 (.load 1 false (t_ 9))),
 (q_ 4 (.move (t_ 10)))])
 (.seq (.region false ((q_ 11 (.move (t_ 4))) :: (q_ 12 (.bin .lss 3 (t_ 11) (k_ 1))) :: (q_ 13 (.move (t_ 12))) :: (ac87_G1 ++ [])))
 (.cond (t_ 16)
 (.seq (.region false [(q_ 2 (.move (.const (.bool false))))])
 (.ret))
 (.skip)))))
 (.region false [(q_ 17 (.bin .add 3 (t_ 7) (k_ 1))),
 (q_ 7 (.move (t_ 17)))])))
/-- patchbay/bitvec.valid -/
def ac87 : AC :=
 .seq (.region false [(q_ 2 (.move (.const (.bool false))))])
 (.seq (.seq (.region false [(q_ 5 (.move (t_ 0))),
 (q_ 6 (.bi .len [29].toArray 3 [(t_ 5)])),
 (q_ 7 (.move (k_ 0)))])
 (.block 0 (.loop ac87_L1)))
 (.seq (.region false [(q_ 2 (.move (.const (.bool true))))])
 (.ret)))
theorem text87 : FnText Tryz.prog 87 [] 18 1 ac87 [(2, none)] :=
 ⟨Tryz.call87, follows, Tryz.f87, _, Tryz.func87, rfl, rfl, by decide, by kernel_rfl, by kernel_rfl⟩


/-- patchbay/bitvec.Mask -/
def ac43 : AC :=
 .seq (.region false [(q_ 2 (.move (.const (.int .u32 0))))])
 (.seq (.seq (.region false [(q_ 3 (.move (t_ 0))),
 (q_ 4 (.bslice false 3 1 false [(t_ 3)])),
 (q_ 5 (.call (.func 87) [(t_ 4)])),
 (q_ 6 (.un .not (t_ 5)))])
 (.cond (t_ 6)
 (.seq (.region false [(q_ 2 (.move (.const (.int .u32 0))))])
 (.ret))
 (.skip)))
 (.seq (.region false [(q_ 7 (.move (t_ 0))),
 (q_ 8 (.bin .sub 3 (k_ 32) (t_ 7))),
 (q_ 9 (.bin .shr 42 (.const (.int .u32 4294967295)) (t_ 8))),
 (q_ 2 (.move (t_ 9)))])
 (.ret)))
theorem text43 : FnText Tryz.prog 43 [] 10 1 ac43 [(2, none)] :=
 ⟨Tryz.call43, follows, Tryz.f43, _, Tryz.func43, rfl, rfl, by decide, by kernel_rfl, by kernel_rfl⟩

def ac66_G1 : List AOper :=
 [⟨(some 17), .move (t_ 1), (some (16, false)), false⟩,
 ⟨(some 18), .faddr 0 9 true (t_ 3), (some (16, false)), false⟩,
 ⟨(some 19), .faddr 1 1 false (t_ 18), (some (16, false)), false⟩,
 ⟨(some 20), .load 1 false (t_ 19), (some (16, false)), false⟩,
 ⟨(some 21), .bi .len [22].toArray 3 [(t_ 20)], (some (16, false)), false⟩,
 ⟨(some 22), .bin .geq 3 (t_ 17) (t_ 21), (some (16, false)), false⟩,
 (q_ 23 (.pick (t_ 16) (.const (.bool true)) (t_ 22)))]
def ac66_G2 : List AOper :=
 [⟨(some 35), .move (t_ 2), (some (34, false)), false⟩,
 ⟨(some 36), .move (t_ 8), (some (34, false)), false⟩,
 ⟨(some 37), .bi .len [23].toArray 3 [(t_ 36)], (some (34, false)), false⟩,
 ⟨(some 38), .bin .geq 3 (t_ 35) (t_ 37), (some (34, false)), false⟩,
 (q_ 39 (.pick (t_ 34) (.const (.bool true)) (t_ 38)))]
/-- (patchbay/expr.Scope).field -/
def ac66 : AC :=
 .seq (.region false [(q_ 3 (.box false 45 (t_ 0))),
 ⟨(some 6), .alloc true 51 (.agg [(.string ⟨[].toArray⟩), (.int .i64 0)].toArray), none, false⟩,
 (q_ 7 (.move (.const (.bool false))))])
 (.seq (.region false [(q_ 9 (.faddr 0 9 true (t_ 3))),
 (q_ 10 (.faddr 2 1 false (t_ 9))),
 (q_ 11 (.load 1 false (t_ 10))),
 (q_ 8 (.move (t_ 11)))])
 (.seq (.seq (.region false [(q_ 12 (.move (t_ 1))),
 (q_ 13 (.bin .neq 3 (t_ 12) (.const (.int .i64 (-1)))))])
 (.cond (t_ 13)
 (.seq (.seq (.region false ((q_ 14 (.move (t_ 1))) :: (q_ 15 (.bin .lss 3 (t_ 14) (k_ 0))) :: (q_ 16 (.move (t_ 15))) :: (ac66_G1 ++ [])))
 (.cond (t_ 23)
 (.seq (.region false [⟨(some 24), .build [(.string ⟨[].toArray⟩), (.int .i64 0)] [], none, false⟩,
 ⟨none, .store 2 (t_ 6) (t_ 24), none, false⟩,
 (q_ 7 (.move (.const (.bool false))))])
 (.ret))
 (.skip)))
 (.region false [(q_ 25 (.faddr 0 9 true (t_ 3))),
 (q_ 26 (.faddr 1 1 false (t_ 25))),
 (q_ 27 (.load 1 false (t_ 26))),
 (q_ 28 (.move (t_ 1))),
 (q_ 29 (.iaddr 2 (t_ 27) (t_ 28))),
 (q_ 30 (.faddr 1 1 false (t_ 29))),
 (q_ 31 (.load 1 false (t_ 30))),
 (q_ 8 (.move (t_ 31)))]))
 (.skip)))
 (.seq (.seq (.region false ((q_ 32 (.move (t_ 2))) :: (q_ 33 (.bin .lss 3 (t_ 32) (k_ 0))) :: (q_ 34 (.move (t_ 33))) :: (ac66_G2 ++ [])))
 (.cond (t_ 39)
 (.seq (.region false [⟨(some 40), .build [(.string ⟨[].toArray⟩), (.int .i64 0)] [], none, false⟩,
 ⟨none, .store 2 (t_ 6) (t_ 40), none, false⟩,
 (q_ 7 (.move (.const (.bool false))))])
 (.ret))
 (.skip)))
 (.seq (.region false [(q_ 41 (.move (t_ 8))),
 (q_ 42 (.move (t_ 2))),
 (q_ 43 (.iaddr 2 (t_ 41) (t_ 42))),
 (q_ 44 (.load 2 true (t_ 43))),
 ⟨none, .store 2 (t_ 6) (t_ 44), none, false⟩,
 (q_ 7 (.move (.const (.bool true))))])
 (.ret)))))
theorem text66 : FnText Tryz.prog 66 [6] 45 3 ac66 [(6, some (2, true)), (7, none)] :=
 ⟨Tryz.call66, follows, Tryz.f66, _, Tryz.func66, rfl, rfl, by decide, by kernel_rfl, by kernel_rfl⟩

def ac36_G2 : List AOper :=
 [⟨(some 27), .faddr 1 1 false (t_ 3), (some (26, false)), false⟩,
 ⟨(some 28), .load 1 false (t_ 27), (some (26, false)), false⟩,
 ⟨(some 29), .move (t_ 6), (some (26, false)), false⟩,
 ⟨(some 30), .call (.func 43) [(t_ 29)], (some (26, false)), false⟩,
 ⟨(some 31), .conv 42 3 (t_ 30), (some (26, false)), false⟩,
 ⟨(some 32), .bin .gtr 3 (t_ 28) (t_ 31), (some (26, false)), false⟩,
 ⟨(some 33), .pick (t_ 26) (.const (.bool true)) (t_ 32), (some (22, true)), false⟩]
def ac36_G1 : List AOper :=
 (⟨(some 23), .faddr 1 1 false (t_ 3), (some (22, true)), false⟩ :: ⟨(some 24), .load 1 false (t_ 23), (some (22, true)), false⟩ :: ⟨(some 25), .bin .lss 3 (t_ 24) (k_ 0), (some (22, true)), false⟩ :: ⟨(some 26), .move (t_ 25), (some (22, true)), false⟩ :: (ac36_G2 ++ [(q_ 34 (.pick (t_ 22) (t_ 33) (.const (.bool false))))]))
def ac36_G3 : List AOper :=
 [⟨(some 61), .faddr 1 1 false (t_ 3), (some (60, false)), false⟩,
 ⟨(some 62), .load 1 false (t_ 61), (some (60, false)), false⟩,
 ⟨(some 63), .faddr 9 1 false (t_ 2), (some (60, false)), false⟩,
 ⟨(some 64), .load 1 false (t_ 63), (some (60, false)), false⟩,
 ⟨(some 65), .bi .len [23].toArray 3 [(t_ 64)], (some (60, false)), false⟩,
 ⟨(some 66), .bin .geq 3 (t_ 62) (t_ 65), (some (60, false)), false⟩,
 (q_ 67 (.pick (t_ 60) (.const (.bool true)) (t_ 66)))]
def ac36_G4 : List AOper :=
 [⟨(some 82), .faddr 1 1 false (t_ 3), (some (81, false)), false⟩,
 ⟨(some 83), .load 1 false (t_ 82), (some (81, false)), false⟩,
 ⟨(some 84), .faddr 0 9 true (t_ 2), (some (81, false)), false⟩,
 ⟨(some 85), .faddr 1 1 false (t_ 84), (some (81, false)), false⟩,
 ⟨(some 86), .load 1 false (t_ 85), (some (81, false)), false⟩,
 ⟨(some 87), .bi .len [22].toArray 3 [(t_ 86)], (some (81, false)), false⟩,
 ⟨(some 88), .bin .geq 3 (t_ 83) (t_ 87), (some (81, false)), false⟩,
 (q_ 89 (.pick (t_ 81) (.const (.bool true)) (t_ 88)))]
/-- (patchbay/expr.Scope).primary -/
def ac36 : AC :=
 .seq (.region false [(q_ 2 (.box false 45 (t_ 0))),
 (q_ 3 (.box false 55 (t_ 1))),
 (q_ 4 (.move (k_ 0))),
 (q_ 5 (.move (k_ 0)))])
 (.seq (.seq (.region false [(q_ 10 (.faddr 0 1 false (t_ 3))),
 (q_ 11 (.load 1 false (t_ 10)))])
 (.block 0 (.seq (.region false [(q_ 13 (.bin .eql 3 (t_ 11) (k_ 1))),
 (q_ 12 (.move (t_ 13)))])
 (.cond (t_ 12)
 (.seq (.region false [(q_ 15 (.faddr 2 1 false (t_ 3))),
 (q_ 16 (.load 1 false (t_ 15))),
 (q_ 17 (.call (.func 65) [(t_ 16)])),
 (q_ 14 (.move (t_ 17))),
 (q_ 18 (.extract (t_ 14) 0)),
 (q_ 19 (.extract (t_ 14) 1)),
 (q_ 6 (.move (t_ 18))),
 (q_ 7 (.move (t_ 19)))])
 (.seq (.seq (.region true ((q_ 20 (.move (t_ 7))) :: (q_ 21 (.bin .eql 57 (t_ 20) (k_ 0))) :: (q_ 22 (.move (t_ 21))) :: (ac36_G1 ++ [])))
 (.cond (t_ 34)
 (.seq (.region false [(q_ 4 (.move (k_ 0))),
 (q_ 5 (.move (k_ 9)))])
 (.ret))
 (.skip)))
 (.seq (.region false [(q_ 35 (.move (t_ 6))),
 (q_ 36 (.move (t_ 7))),
 (q_ 4 (.move (t_ 35))),
 (q_ 5 (.move (t_ 36)))])
 (.ret))))
 (.seq (.region false [(q_ 38 (.bin .eql 3 (t_ 11) (k_ 2))),
 (q_ 37 (.move (t_ 38)))])
 (.cond (t_ 37)
 (.seq (.region false [(q_ 40 (.load 10 true (t_ 2))),
 (q_ 41 (.faddr 1 1 false (t_ 3))),
 (q_ 42 (.load 1 false (t_ 41))),
 (q_ 43 (.faddr 2 1 false (t_ 3))),
 (q_ 44 (.load 1 false (t_ 43))),
 (q_ 45 (.call (.func 66) [(t_ 40), (t_ 42), (t_ 44)])),
 (q_ 39 (.move (t_ 45))),
 (q_ 46 (.extract (t_ 39) 0)),
 (q_ 47 (.extract (t_ 39) 1)),
 ⟨(some 8), .alloc true 51 (.agg [(.string ⟨[].toArray⟩), (.int .i64 0)].toArray), none, false⟩,
 ⟨none, .store 2 (t_ 8) (t_ 46), none, false⟩,
 (q_ 9 (.move (t_ 47)))])
 (.seq (.seq (.region false [(q_ 48 (.move (t_ 9))),
 (q_ 49 (.un .not (t_ 48)))])
 (.cond (t_ 49)
 (.seq (.region false [(q_ 4 (.move (k_ 0))),
 (q_ 5 (.move (k_ 8)))])
 (.ret))
 (.skip)))
 (.seq (.region false [(q_ 50 (.faddr 1 1 false (t_ 8))),
 (q_ 51 (.load 1 false (t_ 50))),
 (q_ 52 (.call (.func 65) [(t_ 51)])),
 (q_ 53 (.extract (t_ 52) 0)),
 (q_ 54 (.extract (t_ 52) 1)),
 (q_ 4 (.move (t_ 53))),
 (q_ 5 (.move (t_ 54)))])
 (.ret))))
 (.seq (.region false [(q_ 56 (.bin .eql 3 (t_ 11) (k_ 3))),
 (q_ 55 (.move (t_ 56)))])
 (.cond (t_ 55)
 (.seq (.seq (.region false ((q_ 57 (.faddr 1 1 false (t_ 3))) :: (q_ 58 (.load 1 false (t_ 57))) :: (q_ 59 (.bin .lss 3 (t_ 58) (k_ 0))) :: (q_ 60 (.move (t_ 59))) :: (ac36_G3 ++ [])))
 (.cond (t_ 67)
 (.seq (.region false [(q_ 4 (.move (k_ 0))),
 (q_ 5 (.move (k_ 8)))])
 (.ret))
 (.skip)))
 (.seq (.region false [(q_ 68 (.faddr 9 1 false (t_ 2))),
 (q_ 69 (.load 1 false (t_ 68))),
 (q_ 70 (.faddr 1 1 false (t_ 3))),
 (q_ 71 (.load 1 false (t_ 70))),
 (q_ 72 (.iaddr 2 (t_ 69) (t_ 71))),
 (q_ 73 (.faddr 1 1 false (t_ 72))),
 (q_ 74 (.load 1 false (t_ 73))),
 (q_ 75 (.call (.func 65) [(t_ 74)])),
 (q_ 76 (.extract (t_ 75) 0)),
 (q_ 77 (.extract (t_ 75) 1)),
 (q_ 4 (.move (t_ 76))),
 (q_ 5 (.move (t_ 77)))])
 (.ret)))
 (.skip)))))))))
 (.seq (.seq (.region false ((q_ 78 (.faddr 1 1 false (t_ 3))) :: (q_ 79 (.load 1 false (t_ 78))) :: (q_ 80 (.bin .lss 3 (t_ 79) (k_ 0))) :: (q_ 81 (.move (t_ 80))) :: (ac36_G4 ++ [])))
 (.cond (t_ 89)
 (.seq (.region false [(q_ 4 (.move (k_ 0))),
 (q_ 5 (.move (k_ 8)))])
 (.ret))
 (.skip)))
 (.seq (.region false [(q_ 4 (.move (k_ 1))),
 (q_ 5 (.move (k_ 0)))])
 (.ret))))
theorem text36 : FnText Tryz.prog 36 [8] 90 2 ac36 [(4, none), (5, none)] :=
 ⟨Tryz.call36, follows, Tryz.f36, _, Tryz.func36, rfl, rfl, by decide, by kernel_rfl, by kernel_rfl⟩

def ac37_G1 : List AOper :=
 [⟨(some 17), .faddr 1 1 false (t_ 2), (some (16, false)), false⟩,
 ⟨(some 18), .load 1 false (t_ 17), (some (16, false)), false⟩,
 ⟨(some 19), .bin .gtr 3 (t_ 18) (k_ 31), (some (16, false)), false⟩,
 (q_ 20 (.pick (t_ 16) (.const (.bool true)) (t_ 19)))]
def ac37_G2 : List AOper :=
 [⟨(some 35), .faddr 1 1 false (t_ 2), (some (34, false)), false⟩,
 ⟨(some 36), .load 1 false (t_ 35), (some (34, false)), false⟩,
 ⟨(some 37), .iaddrA 3 1 false (t_ 3) (k_ 0), (some (34, false)), false⟩,
 ⟨(some 38), .load 1 false (t_ 37), (some (34, false)), false⟩,
 ⟨(some 39), .faddr 2 1 false (t_ 2), (some (34, false)), false⟩,
 ⟨(some 40), .load 1 false (t_ 39), (some (34, false)), false⟩,
 ⟨(some 41), .bin .sub 3 (t_ 38) (t_ 40), (some (34, false)), false⟩,
 ⟨(some 42), .bin .gtr 3 (t_ 36) (t_ 41), (some (34, false)), false⟩,
 (q_ 43 (.pick (t_ 34) (.const (.bool true)) (t_ 42)))]
def ac37_G3 : List AOper :=
 [⟨(some 62), .iaddrA 3 1 false (t_ 3) (k_ 1), (some (61, false)), false⟩,
 ⟨(some 63), .load 1 false (t_ 62), (some (61, false)), false⟩,
 ⟨(some 64), .iaddrA 3 1 false (t_ 3) (k_ 2), (some (61, false)), false⟩,
 ⟨(some 65), .load 1 false (t_ 64), (some (61, false)), false⟩,
 ⟨(some 66), .bin .neq 3 (t_ 63) (t_ 65), (some (61, false)), false⟩,
 (q_ 67 (.pick (t_ 61) (.const (.bool true)) (t_ 66)))]
def ac37_G4 : List AOper :=
 [⟨(some 75), .iaddrA 3 1 false (t_ 3) (k_ 0), (some (74, true)), false⟩,
 ⟨(some 76), .load 1 false (t_ 75), (some (74, true)), false⟩,
 ⟨(some 77), .iaddrA 3 1 false (t_ 3) (k_ 1), (some (74, true)), false⟩,
 ⟨(some 78), .load 1 false (t_ 77), (some (74, true)), false⟩,
 ⟨(some 79), .bin .neq 3 (t_ 76) (t_ 78), (some (74, true)), false⟩,
 (q_ 80 (.pick (t_ 74) (t_ 79) (.const (.bool false))))]
def ac37_G5 : List AOper :=
 [⟨(some 85), .faddr 0 1 false (t_ 2), (some (84, false)), false⟩,
 ⟨(some 86), .load 1 false (t_ 85), (some (84, false)), false⟩,
 ⟨(some 87), .bin .eql 3 (t_ 86) (k_ 16), (some (84, false)), false⟩,
 (q_ 88 (.pick (t_ 84) (.const (.bool true)) (t_ 87)))]
/-- patchbay/expr.combine -/
def ac37 : AC :=
 .seq (.region false [(q_ 2 (.box false 55 (t_ 0))),
 (q_ 3 (.box false 99 (t_ 1))),
 (q_ 4 (.move (k_ 0))),
 (q_ 5 (.move (k_ 0)))])
 (.seq (.seq (.region false [(q_ 8 (.faddr 0 1 false (t_ 2))),
 (q_ 9 (.load 1 false (t_ 8)))])
 (.block 0 (.seq (.seq (.region false [(q_ 11 (.bin .eql 3 (t_ 9) (k_ 6))),
 (q_ 10 (.move (t_ 11)))])
 (.cond (t_ 10)
 (.skip)
 (.region false [(q_ 12 (.bin .eql 3 (t_ 9) (k_ 7))),
 (q_ 10 (.move (t_ 12)))])))
 (.cond (t_ 10)
 (.seq (.region false ((q_ 13 (.faddr 1 1 false (t_ 2))) :: (q_ 14 (.load 1 false (t_ 13))) :: (q_ 15 (.bin .lss 3 (t_ 14) (k_ 0))) :: (q_ 16 (.move (t_ 15))) :: (ac37_G1 ++ [])))
 (.cond (t_ 20)
 (.seq (.region false [(q_ 4 (.move (k_ 0))),
 (q_ 5 (.move (k_ 9)))])
 (.ret))
 (.skip)))
 (.seq (.region false [(q_ 22 (.bin .eql 3 (t_ 9) (k_ 8))),
 (q_ 21 (.move (t_ 22)))])
 (.cond (t_ 21)
 (.seq (.seq (.region false [(q_ 23 (.faddr 1 1 false (t_ 2))),
 (q_ 24 (.load 1 false (t_ 23))),
 (q_ 25 (.bin .lss 3 (t_ 24) (k_ 0)))])
 (.cond (t_ 25)
 (.seq (.region false [(q_ 4 (.move (k_ 0))),
 (q_ 5 (.move (k_ 9)))])
 (.ret))
 (.skip)))
 (.seq (.seq (.region false [(q_ 27 (.faddr 2 1 false (t_ 2))),
 (q_ 28 (.load 1 false (t_ 27))),
 (q_ 29 (.call (.func 65) [(t_ 28)])),
 (q_ 26 (.move (t_ 29))),
 (q_ 30 (.extract (t_ 26) 0)),
 (q_ 31 (.extract (t_ 26) 1)),
 (q_ 6 (.move (t_ 30))),
 (q_ 7 (.move (t_ 31)))])
 (.seq (.region false ((q_ 32 (.move (t_ 7))) :: (q_ 33 (.bin .neq 57 (t_ 32) (k_ 0))) :: (q_ 34 (.move (t_ 33))) :: (ac37_G2 ++ [])))
 (.cond (t_ 43)
 (.seq (.region false [(q_ 4 (.move (k_ 0))),
 (q_ 5 (.move (k_ 10)))])
 (.ret))
 (.skip))))
 (.seq (.region false [(q_ 44 (.faddr 2 1 false (t_ 2))),
 (q_ 45 (.load 1 false (t_ 44))),
 (q_ 4 (.move (t_ 45))),
 (q_ 5 (.move (k_ 0)))])
 (.ret))))
 (.seq (.region false [(q_ 47 (.bin .eql 3 (t_ 9) (k_ 14))),
 (q_ 46 (.move (t_ 47)))])
 (.cond (t_ 46)
 (.seq (.region false [(q_ 48 (.iaddrA 3 1 false (t_ 3) (k_ 0))),
 (q_ 49 (.load 1 false (t_ 48))),
 (q_ 50 (.iaddrA 3 1 false (t_ 3) (k_ 1))),
 (q_ 51 (.load 1 false (t_ 50))),
 (q_ 52 (.bin .add 3 (t_ 49) (t_ 51))),
 (q_ 53 (.call (.func 65) [(t_ 52)])),
 (q_ 54 (.extract (t_ 53) 0)),
 (q_ 55 (.extract (t_ 53) 1)),
 (q_ 4 (.move (t_ 54))),
 (q_ 5 (.move (t_ 55)))])
 (.ret))
 (.seq (.region false [(q_ 57 (.bin .eql 3 (t_ 9) (k_ 17))),
 (q_ 56 (.move (t_ 57)))])
 (.cond (t_ 56)
 (.seq (.seq (.region false ((q_ 58 (.iaddrA 3 1 false (t_ 3) (k_ 0))) :: (q_ 59 (.load 1 false (t_ 58))) :: (q_ 60 (.bin .neq 3 (t_ 59) (k_ 1))) :: (q_ 61 (.move (t_ 60))) :: (ac37_G3 ++ [])))
 (.cond (t_ 67)
 (.seq (.region false [(q_ 4 (.move (k_ 0))),
 (q_ 5 (.move (k_ 10)))])
 (.ret))
 (.skip)))
 (.seq (.region false [(q_ 68 (.iaddrA 3 1 false (t_ 3) (k_ 1))),
 (q_ 69 (.load 1 false (t_ 68))),
 (q_ 4 (.move (t_ 69))),
 (q_ 5 (.move (k_ 0)))])
 (.ret)))
 (.skip)))))))))))
 (.seq (.seq (.region false ((q_ 70 (.faddr 0 1 false (t_ 2))) :: (q_ 71 (.load 1 false (t_ 70))) :: (q_ 72 (.call (.func 19) [(t_ 71)])) :: (q_ 73 (.bin .eql 3 (t_ 72) (k_ 2))) :: (q_ 74 (.move (t_ 73))) :: (ac37_G4 ++ [])))
 (.cond (t_ 80)
 (.seq (.region false [(q_ 4 (.move (k_ 0))),
 (q_ 5 (.move (k_ 10)))])
 (.ret))
 (.skip)))
 (.seq (.seq (.region false ((q_ 81 (.faddr 0 1 false (t_ 2))) :: (q_ 82 (.load 1 false (t_ 81))) :: (q_ 83 (.bin .eql 3 (t_ 82) (k_ 15))) :: (q_ 84 (.move (t_ 83))) :: (ac37_G5 ++ [])))
 (.cond (t_ 88)
 (.seq (.region false [(q_ 4 (.move (k_ 1))),
 (q_ 5 (.move (k_ 0)))])
 (.ret))
 (.skip)))
 (.seq (.region false [(q_ 89 (.iaddrA 3 1 false (t_ 3) (k_ 0))),
 (q_ 90 (.load 1 false (t_ 89))),
 (q_ 4 (.move (t_ 90))),
 (q_ 5 (.move (k_ 0)))])
 (.ret)))))
theorem text37 : FnText Tryz.prog 37 [] 91 2 ac37 [(4, none), (5, none)] :=
 ⟨Tryz.call37, follows, Tryz.f37, _, Tryz.func37, rfl, rfl, by decide, by kernel_rfl, by kernel_rfl⟩

def ac18_L1 : AC :=
 .seq (.region false [(q_ 45 (.bin .lss 3 (t_ 44) (t_ 43)))])
 (.seq (.cond (t_ 45)
 (.skip)
 (.exit 1))
 (.seq (.block 2 (.seq (.region false [(q_ 46 (.move (t_ 44))),
 (q_ 11 (.move (t_ 46)))])
 (.seq (.region false [(q_ 48 (.move (t_ 11))),
 (q_ 49 (.load 10 true (t_ 3))),
 (q_ 50 (.move (t_ 1))),
 (q_ 51 (.move (t_ 7))),
 (q_ 52 (.call (.func 18) [(t_ 49), (t_ 50), (t_ 51)])),
 (q_ 47 (.move (t_ 52))),
 (q_ 53 (.extract (t_ 47) 0)),
 (q_ 54 (.extract (t_ 47) 1)),
 (q_ 55 (.extract (t_ 47) 2)),
 (q_ 56 (.iaddrA 3 1 false (t_ 10) (t_ 48))),
 ⟨none, .store 1 (t_ 56) (t_ 53), none, false⟩,
 (q_ 7 (.move (t_ 54))),
 (q_ 8 (.move (t_ 55)))])
 (.seq (.region false [(q_ 57 (.move (t_ 8))),
 (q_ 58 (.bin .neq 57 (t_ 57) (k_ 0)))])
 (.cond (t_ 58)
 (.seq (.region false [(q_ 59 (.move (t_ 8))),
 (q_ 6 (.move (k_ 0))),
 (q_ 7 (.move (k_ 0))),
 (q_ 8 (.move (t_ 59)))])
 (.ret))
 (.skip))))))
 (.region false [(q_ 60 (.bin .add 3 (t_ 44) (k_ 1))),
 (q_ 44 (.move (t_ 60)))])))
/-- (patchbay/expr.Scope).check -/
def ac18 : AC :=
 .seq (.region false [(q_ 3 (.box false 45 (t_ 0))),
 (q_ 6 (.move (k_ 0))),
 (q_ 7 (.move (k_ 0))),
 (q_ 8 (.move (k_ 0)))])
 (.seq (.seq (.region false [(q_ 12 (.move (t_ 2))),
 (q_ 13 (.move (t_ 1))),
 (q_ 14 (.bi .len [32].toArray 3 [(t_ 13)])),
 (q_ 15 (.bin .geq 3 (t_ 12) (t_ 14)))])
 (.cond (t_ 15)
 (.seq (.region false [(q_ 6 (.move (k_ 0))),
 (q_ 7 (.move (k_ 0))),
 (q_ 8 (.move (k_ 3)))])
 (.ret))
 (.skip)))
 (.seq (.region false [(q_ 16 (.move (t_ 1))),
 (q_ 17 (.move (t_ 2))),
 (q_ 18 (.iaddr 3 (t_ 16) (t_ 17))),
 (q_ 19 (.faddr 0 1 false (t_ 18))),
 (q_ 20 (.load 1 false (t_ 19))),
 (q_ 21 (.call (.func 19) [(t_ 20)])),
 (q_ 9 (.move (t_ 21)))])
 (.seq (.block 0 (.seq (.region false [(q_ 23 (.move (t_ 9))),
 (q_ 24 (.bin .lss 3 (t_ 23) (k_ 0))),
 (q_ 22 (.move (t_ 24)))])
 (.cond (t_ 22)
 (.seq (.region false [(q_ 6 (.move (k_ 0))),
 (q_ 7 (.move (k_ 0))),
 (q_ 8 (.move (k_ 11)))])
 (.ret))
 (.seq (.region false [(q_ 26 (.move (t_ 9))),
 (q_ 27 (.bin .eql 3 (t_ 26) (k_ 0))),
 (q_ 25 (.move (t_ 27)))])
 (.cond (t_ 25)
 (.seq (.region true [(q_ 29 (.load 10 true (t_ 3))),
 (q_ 30 (.move (t_ 1))),
 (q_ 31 (.move (t_ 2))),
 (q_ 32 (.iaddr 3 (t_ 30) (t_ 31))),
 (q_ 33 (.load 3 true (t_ 32))),
 (q_ 34 (.call (.func 36) [(t_ 29), (t_ 33)])),
 (q_ 28 (.move (t_ 34))),
 (q_ 35 (.extract (t_ 28) 0)),
 (q_ 36 (.extract (t_ 28) 1)),
 (q_ 6 (.move (t_ 35))),
 (q_ 8 (.move (t_ 36)))])
 (.seq (.region false [(q_ 37 (.move (t_ 6))),
 (q_ 38 (.move (t_ 2))),
 (q_ 39 (.bin .add 3 (t_ 38) (k_ 1))),
 (q_ 40 (.move (t_ 8))),
 (q_ 6 (.move (t_ 37))),
 (q_ 7 (.move (t_ 39))),
 (q_ 8 (.move (t_ 40)))])
 (.ret)))
 (.skip))))))
 (.seq (.region false [(q_ 10 (.alloc true 99 (.agg [(.int .i64 0), (.int .i64 0), (.int .i64 0)].toArray)))])
 (.seq (.region false [(q_ 41 (.move (t_ 2))),
 (q_ 42 (.bin .add 3 (t_ 41) (k_ 1))),
 (q_ 7 (.move (t_ 42)))])
 (.seq (.seq (.region false [(q_ 43 (.move (t_ 9))),
 (q_ 44 (.move (k_ 0)))])
 (.block 1 (.loop ac18_L1)))
 (.seq (.region true [(q_ 62 (.move (t_ 1))),
 (q_ 63 (.move (t_ 2))),
 (q_ 64 (.iaddr 3 (t_ 62) (t_ 63))),
 (q_ 65 (.load 3 true (t_ 64))),
 (q_ 66 (.load 3 true (t_ 10))),
 (q_ 67 (.call (.func 37) [(t_ 65), (t_ 66)])),
 (q_ 61 (.move (t_ 67))),
 (q_ 68 (.extract (t_ 61) 0)),
 (q_ 69 (.extract (t_ 61) 1)),
 (q_ 6 (.move (t_ 68))),
 (q_ 8 (.move (t_ 69)))])
 (.seq (.region false [(q_ 70 (.move (t_ 6))),
 (q_ 71 (.move (t_ 7))),
 (q_ 72 (.move (t_ 8))),
 (q_ 6 (.move (t_ 70))),
 (q_ 7 (.move (t_ 71))),
 (q_ 8 (.move (t_ 72)))])
 (.ret)))))))))
theorem text18 : FnText Tryz.prog 18 [10] 73 3 ac18 [(6, none), (7, none), (8, none)] :=
 ⟨Tryz.call18, follows, Tryz.f18, _, Tryz.func18, rfl, rfl, by decide, by kernel_rfl, by kernel_rfl⟩


/-- patchbay/expr.Check -/
def ac9 : AC :=
 .seq (.region false [(q_ 3 (.box false 45 (t_ 1))),
 (q_ 4 (.move (k_ 0))),
 (q_ 5 (.move (k_ 0)))])
 (.seq (.seq (.region false [(q_ 7 (.move (t_ 0))),
 (q_ 8 (.bi .len [32].toArray 3 [(t_ 7)])),
 (q_ 9 (.bin .gtr 3 (t_ 8) (k_ 24)))])
 (.cond (t_ 9)
 (.seq (.region false [(q_ 4 (.move (k_ 0))),
 (q_ 5 (.move (k_ 12)))])
 (.ret))
 (.skip)))
 (.seq (.region false [(q_ 11 (.load 10 true (t_ 3))),
 (q_ 12 (.move (t_ 0))),
 (q_ 13 (.call (.func 18) [(t_ 11), (t_ 12), (k_ 0)])),
 (q_ 10 (.move (t_ 13))),
 (q_ 14 (.extract (t_ 10) 0)),
 (q_ 15 (.extract (t_ 10) 1)),
 (q_ 16 (.extract (t_ 10) 2)),
 (q_ 4 (.move (t_ 14))),
 (q_ 6 (.move (t_ 15))),
 (q_ 5 (.move (t_ 16)))])
 (.seq (.block 0 (.seq (.region false [(q_ 18 (.move (t_ 5))),
 (q_ 19 (.bin .neq 57 (t_ 18) (k_ 0))),
 (q_ 17 (.move (t_ 19)))])
 (.cond (t_ 17)
 (.seq (.region false [(q_ 20 (.move (t_ 5))),
 (q_ 4 (.move (k_ 0))),
 (q_ 5 (.move (t_ 20)))])
 (.ret))
 (.seq (.region false [(q_ 22 (.move (t_ 6))),
 (q_ 23 (.move (t_ 0))),
 (q_ 24 (.bi .len [32].toArray 3 [(t_ 23)])),
 (q_ 25 (.bin .lss 3 (t_ 22) (t_ 24))),
 (q_ 21 (.move (t_ 25)))])
 (.cond (t_ 21)
 (.seq (.region false [(q_ 4 (.move (k_ 0))),
 (q_ 5 (.move (k_ 4)))])
 (.ret))
 (.skip))))))
 (.seq (.region false [(q_ 26 (.move (t_ 4))),
 (q_ 4 (.move (t_ 26))),
 (q_ 5 (.move (k_ 0)))])
 (.ret)))))
theorem text9 : FnText Tryz.prog 9 [] 27 2 ac9 [(4, none), (5, none)] :=
 ⟨Tryz.call9, follows, Tryz.f9, _, Tryz.func9, rfl, rfl, by decide, by kernel_rfl, by kernel_rfl⟩

def ac99_G1 : List AOper :=
 [⟨(some 8), .move (t_ 1), (some (7, true)), false⟩,
 ⟨(some 9), .move (t_ 0), (some (7, true)), false⟩,
 ⟨(some 10), .bi .len [35].toArray 3 [(t_ 9)], (some (7, true)), false⟩,
 ⟨(some 11), .bin .lss 3 (t_ 8) (t_ 10), (some (7, true)), false⟩,
 (q_ 12 (.pick (t_ 7) (t_ 11) (.const (.bool false))))]
/-- patchbay/env.in[uint32] -/
def ac99 : AC :=
 .seq (.region false [(q_ 4 (.move (.const (.bool false))))])
 (.seq (.region false ((q_ 5 (.move (t_ 1))) :: (q_ 6 (.bin .geq 3 (t_ 5) (k_ 0))) :: (q_ 7 (.move (t_ 6))) :: (ac99_G1 ++ [(q_ 4 (.move (t_ 12)))])))
 (.ret))
theorem text99 : FnText Tryz.prog 99 [] 13 2 ac99 [(4, none)] :=
 ⟨Tryz.call99, follows, Tryz.f99, _, Tryz.func99, rfl, rfl, by decide, by kernel_rfl, by kernel_rfl⟩

def ac100_G1 : List AOper :=
 [⟨(some 9), .move (t_ 1), (some (8, false)), false⟩,
 ⟨(some 10), .move (t_ 0), (some (8, false)), false⟩,
 ⟨(some 11), .bi .len [34].toArray 3 [(t_ 10)], (some (8, false)), false⟩,
 ⟨(some 12), .bin .geq 3 (t_ 9) (t_ 11), (some (8, false)), false⟩,
 (q_ 13 (.pick (t_ 8) (.const (.bool true)) (t_ 12)))]
/-- patchbay/env.at[[]uint32] -/
def ac100 : AC :=
 .seq (.region false [(q_ 4 (.move (.const (.slice none 0 0))))])
 (.seq (.region false [(q_ 5 (.move (.const (.slice none 0 0))))])
 (.seq (.seq (.region false ((q_ 6 (.move (t_ 1))) :: (q_ 7 (.bin .lss 3 (t_ 6) (k_ 0))) :: (q_ 8 (.move (t_ 7))) :: (ac100_G1 ++ [])))
 (.cond (t_ 13)
 (.seq (.region false [(q_ 14 (.move (t_ 5))),
 (q_ 4 (.move (t_ 14)))])
 (.ret))
 (.skip)))
 (.seq (.region false [(q_ 15 (.move (t_ 0))),
 (q_ 16 (.move (t_ 1))),
 (q_ 17 (.iaddr 1 (t_ 15) (t_ 16))),
 (q_ 18 (.load 1 false (t_ 17))),
 (q_ 4 (.move (t_ 18)))])
 (.ret))))
theorem text100 : FnText Tryz.prog 100 [] 19 2 ac100 [(4, none)] :=
 ⟨Tryz.call100, follows, Tryz.f100, _, Tryz.func100, rfl, rfl, by decide, by kernel_rfl, by kernel_rfl⟩

def ac101_G1 : List AOper :=
 [⟨(some 9), .move (t_ 1), (some (8, false)), false⟩,
 ⟨(some 10), .move (t_ 0), (some (8, false)), false⟩,
 ⟨(some 11), .bi .len [33].toArray 3 [(t_ 10)], (some (8, false)), false⟩,
 ⟨(some 12), .bin .geq 3 (t_ 9) (t_ 11), (some (8, false)), false⟩,
 (q_ 13 (.pick (t_ 8) (.const (.bool true)) (t_ 12)))]
/-- patchbay/env.at[bool] -/
def ac101 : AC :=
 .seq (.region false [(q_ 4 (.move (.const (.bool false))))])
 (.seq (.region false [(q_ 5 (.move (.const (.bool false))))])
 (.seq (.seq (.region false ((q_ 6 (.move (t_ 1))) :: (q_ 7 (.bin .lss 3 (t_ 6) (k_ 0))) :: (q_ 8 (.move (t_ 7))) :: (ac101_G1 ++ [])))
 (.cond (t_ 13)
 (.seq (.region false [(q_ 14 (.move (t_ 5))),
 (q_ 4 (.move (t_ 14)))])
 (.ret))
 (.skip)))
 (.seq (.region false [(q_ 15 (.move (t_ 0))),
 (q_ 16 (.move (t_ 1))),
 (q_ 17 (.iaddr 1 (t_ 15) (t_ 16))),
 (q_ 18 (.load 1 false (t_ 17))),
 (q_ 4 (.move (t_ 18)))])
 (.ret))))
theorem text101 : FnText Tryz.prog 101 [] 19 2 ac101 [(4, none)] :=
 ⟨Tryz.call101, follows, Tryz.f101, _, Tryz.func101, rfl, rfl, by decide, by kernel_rfl, by kernel_rfl⟩

def ac86_G1 : List AOper :=
 [⟨(some 31), .move (t_ 6), (some (30, true)), false⟩,
 ⟨(some 32), .faddr 1 1 false (t_ 3), (some (30, true)), false⟩,
 ⟨(some 33), .load 1 false (t_ 32), (some (30, true)), false⟩,
 ⟨(some 34), .call (.func 99) [(t_ 31), (t_ 33)], (some (30, true)), false⟩,
 (q_ 35 (.pick (t_ 30) (t_ 34) (.const (.bool false))))]
/-- patchbay/env.element -/
def ac86 : AC :=
 .seq (.region false [(q_ 2 (.box false 38 (t_ 0))),
 (q_ 3 (.box false 65 (t_ 1))),
 (q_ 4 (.move (.const (.slice none 0 0)))),
 (q_ 5 (.move (.const (.bool false))))])
 (.seq (.seq (.region false [(q_ 7 (.load 2 true (t_ 3))),
 (q_ 8 (.faddr 1 1 false (t_ 3))),
 (q_ 9 (.load 1 false (t_ 8))),
 (q_ 10 (.build [(.int .i64 0), (.int .i64 0)] [(0, 1, (.const (.int .i64 (-1)))), (1, 1, (t_ 9))])),
 (q_ 11 (.bin .eql 65 (t_ 7) (t_ 10)))])
 (.cond (t_ 11)
 (.seq (.region true [(q_ 12 (.faddr 2 1 false (t_ 2))),
 (q_ 13 (.load 1 false (t_ 12))),
 (q_ 14 (.faddr 2 1 false (t_ 2))),
 (q_ 15 (.load 1 false (t_ 14))),
 (q_ 16 (.faddr 1 1 false (t_ 3))),
 (q_ 17 (.load 1 false (t_ 16))),
 (q_ 18 (.call (.func 99) [(t_ 15), (t_ 17)])),
 (q_ 4 (.move (t_ 13))),
 (q_ 5 (.move (t_ 18)))])
 (.ret))
 (.skip)))
 (.seq (.region false [(q_ 19 (.faddr 1 1 false (t_ 2))),
 (q_ 20 (.load 1 false (t_ 19))),
 (q_ 21 (.faddr 0 1 false (t_ 3))),
 (q_ 22 (.load 1 false (t_ 21))),
 (q_ 23 (.call (.func 100) [(t_ 20), (t_ 22)])),
 (q_ 6 (.move (t_ 23)))])
 (.seq (.region false ((q_ 24 (.move (t_ 6))) :: (q_ 25 (.faddr 0 1 false (t_ 2))) :: (q_ 26 (.load 1 false (t_ 25))) :: (q_ 27 (.faddr 0 1 false (t_ 3))) :: (q_ 28 (.load 1 false (t_ 27))) :: (q_ 29 (.call (.func 101) [(t_ 26), (t_ 28)])) :: (q_ 30 (.move (t_ 29))) :: (ac86_G1 ++ [(q_ 4 (.move (t_ 24))),
 (q_ 5 (.move (t_ 35)))])))
 (.ret))))
theorem text86 : FnText Tryz.prog 86 [] 36 2 ac86 [(4, none), (5, none)] :=
 ⟨Tryz.call86, follows, Tryz.f86, _, Tryz.func86, rfl, rfl, by decide, by kernel_rfl, by kernel_rfl⟩


/-- patchbay/env.Get -/
def ac42 : AC :=
 .seq (.region false [(q_ 2 (.box false 38 (t_ 0))),
 (q_ 3 (.box false 65 (t_ 1))),
 (q_ 4 (.move (.const (.int .u32 0))))])
 (.seq (.region false [(q_ 8 (.load 4 true (t_ 2))),
 (q_ 9 (.load 2 true (t_ 3))),
 (q_ 10 (.call (.func 86) [(t_ 8), (t_ 9)])),
 (q_ 7 (.move (t_ 10))),
 (q_ 11 (.extract (t_ 7) 0)),
 (q_ 12 (.extract (t_ 7) 1)),
 (q_ 5 (.move (t_ 11))),
 (q_ 6 (.move (t_ 12)))])
 (.seq (.seq (.region false [(q_ 13 (.move (t_ 6))),
 (q_ 14 (.un .not (t_ 13)))])
 (.cond (t_ 14)
 (.seq (.region false [(q_ 4 (.move (.const (.int .u32 0))))])
 (.ret))
 (.skip)))
 (.seq (.region false [(q_ 15 (.move (t_ 5))),
 (q_ 16 (.faddr 1 1 false (t_ 3))),
 (q_ 17 (.load 1 false (t_ 16))),
 (q_ 18 (.iaddr 1 (t_ 15) (t_ 17))),
 (q_ 19 (.load 1 false (t_ 18))),
 (q_ 4 (.move (t_ 19)))])
 (.ret))))
theorem text42 : FnText Tryz.prog 42 [] 20 2 ac42 [(4, none)] :=
 ⟨Tryz.call42, follows, Tryz.f42, _, Tryz.func42, rfl, rfl, by decide, by kernel_rfl, by kernel_rfl⟩

def ac27_G1 : List AOper :=
 [⟨(some 66), .move (t_ 0), (some (65, true)), false⟩,
 ⟨(some 67), .nilCheck (t_ 66), (some (65, true)), false⟩,
 ⟨(some 68), .faddr 10 4 true (t_ 67), (some (65, true)), false⟩,
 ⟨(some 69), .faddr 0 1 false (t_ 68), (some (65, true)), false⟩,
 ⟨(some 70), .load 1 false (t_ 69), (some (65, true)), false⟩,
 ⟨(some 71), .faddr 1 1 false (t_ 3), (some (65, true)), false⟩,
 ⟨(some 72), .load 1 false (t_ 71), (some (65, true)), false⟩,
 ⟨(some 73), .iaddr 1 (t_ 70) (t_ 72), (some (65, true)), false⟩,
 ⟨(some 74), .load 1 false (t_ 73), (some (65, true)), false⟩,
 (q_ 75 (.pick (t_ 65) (t_ 74) (.const (.bool false))))]
/-- (*patchbay/expr.machine).load -/
def ac27 : AC :=
 .seq (.region false [(q_ 3 (.box false 55 (t_ 1))),
 (q_ 4 (.alloc true 71 (.agg [(.int .u32 0), (.int .i64 0)].toArray)))])
 (.seq (.region true [(q_ 9 (.move (t_ 0))),
 (q_ 10 (.nilCheck (t_ 9))),
 (q_ 11 (.faddr 0 10 true (t_ 10))),
 (q_ 12 (.load 10 true (t_ 11))),
 (q_ 13 (.load 3 true (t_ 3))),
 (q_ 14 (.call (.func 36) [(t_ 12), (t_ 13)])),
 (q_ 8 (.move (t_ 14))),
 (q_ 15 (.extract (t_ 8) 0)),
 (q_ 16 (.extract (t_ 8) 1)),
 (q_ 5 (.move (t_ 15))),
 (q_ 6 (.move (t_ 16)))])
 (.seq (.region false [(q_ 7 (.move (.const (.int .u32 0))))])
 (.seq (.seq (.region false [(q_ 17 (.faddr 0 1 false (t_ 3))),
 (q_ 18 (.load 1 false (t_ 17)))])
 (.block 0 (.seq (.region false [(q_ 20 (.bin .eql 3 (t_ 18) (k_ 1))),
 (q_ 19 (.move (t_ 20)))])
 (.cond (t_ 19)
 (.region false [(q_ 21 (.faddr 1 1 false (t_ 3))),
 (q_ 22 (.load 1 false (t_ 21))),
 (q_ 23 (.conv 3 42 (t_ 22))),
 (q_ 7 (.move (t_ 23)))])
 (.seq (.region false [(q_ 25 (.bin .eql 3 (t_ 18) (k_ 2))),
 (q_ 24 (.move (t_ 25)))])
 (.cond (t_ 24)
 (.region true [(q_ 26 (.move (t_ 0))),
 (q_ 27 (.nilCheck (t_ 26))),
 (q_ 28 (.faddr 10 4 true (t_ 27))),
 (q_ 29 (.load 4 true (t_ 28))),
 (q_ 30 (.faddr 1 1 false (t_ 3))),
 (q_ 31 (.load 1 false (t_ 30))),
 (q_ 32 (.faddr 2 1 false (t_ 3))),
 (q_ 33 (.load 1 false (t_ 32))),
 (q_ 34 (.build [(.int .i64 0), (.int .i64 0)] [(0, 1, (t_ 31)), (1, 1, (t_ 33))])),
 (q_ 35 (.call (.func 42) [(t_ 29), (t_ 34)])),
 (q_ 7 (.move (t_ 35)))])
 (.seq (.region false [(q_ 37 (.bin .eql 3 (t_ 18) (k_ 3))),
 (q_ 36 (.move (t_ 37)))])
 (.cond (t_ 36)
 (.seq (.region true [(q_ 38 (.faddr 1 1 false (t_ 3))),
 (q_ 39 (.load 1 false (t_ 38))),
 (q_ 40 (.move (t_ 0))),
 (q_ 41 (.nilCheck (t_ 40))),
 (q_ 42 (.faddr 14 1 false (t_ 41))),
 (q_ 43 (.load 1 false (t_ 42))),
 (q_ 44 (.bi .len [35].toArray 3 [(t_ 43)])),
 (q_ 45 (.bin .lss 3 (t_ 39) (t_ 44)))])
 (.cond (t_ 45)
 (.region true [(q_ 46 (.move (t_ 0))),
 (q_ 47 (.nilCheck (t_ 46))),
 (q_ 48 (.faddr 14 1 false (t_ 47))),
 (q_ 49 (.load 1 false (t_ 48))),
 (q_ 50 (.faddr 1 1 false (t_ 3))),
 (q_ 51 (.load 1 false (t_ 50))),
 (q_ 52 (.iaddr 1 (t_ 49) (t_ 51))),
 (q_ 53 (.load 1 false (t_ 52))),
 (q_ 7 (.move (t_ 53)))])
 (.skip)))
 (.seq (.region false [(q_ 55 (.bin .eql 3 (t_ 18) (k_ 4))),
 (q_ 54 (.move (t_ 55)))])
 (.cond (t_ 54)
 (.seq (.region true ((q_ 56 (.faddr 1 1 false (t_ 3))) :: (q_ 57 (.load 1 false (t_ 56))) :: (q_ 58 (.move (t_ 0))) :: (q_ 59 (.nilCheck (t_ 58))) :: (q_ 60 (.faddr 10 4 true (t_ 59))) :: (q_ 61 (.faddr 0 1 false (t_ 60))) :: (q_ 62 (.load 1 false (t_ 61))) :: (q_ 63 (.bi .len [33].toArray 3 [(t_ 62)])) :: (q_ 64 (.bin .lss 3 (t_ 57) (t_ 63))) :: (q_ 65 (.move (t_ 64))) :: (ac27_G1 ++ [])))
 (.cond (t_ 75)
 (.region false [(q_ 7 (.move (.const (.int .u32 1))))])
 (.skip)))
 (.skip)))))))))))
 (.seq (.region false [(q_ 76 (.move (t_ 7))),
 (q_ 77 (.move (t_ 5))),
 (q_ 78 (.call (.func 43) [(t_ 77)])),
 (q_ 79 (.bin .and 42 (t_ 76) (t_ 78))),
 (q_ 80 (.move (t_ 5))),
 (q_ 81 (.build [(.int .u32 0), (.int .i64 0)] [(0, 1, (t_ 79)), (1, 1, (t_ 80))])),
 ⟨none, .store 2 (t_ 4) (t_ 81), none, false⟩])
 (.ret)))))
theorem text27 : FnText Tryz.prog 27 [4] 82 2 ac27 [(4, some (2, true))] :=
 ⟨Tryz.call27, follows, Tryz.f27, _, Tryz.func27, rfl, rfl, by decide, by kernel_rfl, by kernel_rfl⟩


/-- patchbay/bitvec.Not -/
def ac44 : AC :=
 .seq (.region false [(q_ 4 (.move (.const (.int .u32 0))))])
 (.seq (.region false [(q_ 5 (.move (t_ 0))),
 (q_ 6 (.un .xor (t_ 5))),
 (q_ 7 (.move (t_ 1))),
 (q_ 8 (.call (.func 43) [(t_ 7)])),
 (q_ 9 (.bin .and 42 (t_ 6) (t_ 8))),
 (q_ 4 (.move (t_ 9)))])
 (.ret))
theorem text44 : FnText Tryz.prog 44 [] 10 2 ac44 [(4, none)] :=
 ⟨Tryz.call44, follows, Tryz.f44, _, Tryz.func44, rfl, rfl, by decide, by kernel_rfl, by kernel_rfl⟩


/-- patchbay/bitvec.Shl -/
def ac45 : AC :=
 .seq (.region false [(q_ 6 (.move (.const (.int .u32 0))))])
 (.seq (.region true [(q_ 7 (.move (t_ 0))),
 (q_ 8 (.move (t_ 1))),
 (q_ 9 (.bi .max [3, 3].toArray 3 [(t_ 8), (k_ 0)])),
 (q_ 10 (.bin .shl 42 (t_ 7) (t_ 9))),
 (q_ 11 (.move (t_ 2))),
 (q_ 12 (.call (.func 43) [(t_ 11)])),
 (q_ 13 (.bin .and 42 (t_ 10) (t_ 12))),
 (q_ 6 (.move (t_ 13)))])
 (.ret))
theorem text45 : FnText Tryz.prog 45 [] 14 3 ac45 [(6, none)] :=
 ⟨Tryz.call45, follows, Tryz.f45, _, Tryz.func45, rfl, rfl, by decide, by kernel_rfl, by kernel_rfl⟩


/-- patchbay/bitvec.Shr -/
def ac46 : AC :=
 .seq (.region false [(q_ 6 (.move (.const (.int .u32 0))))])
 (.seq (.region false [(q_ 7 (.move (t_ 0))),
 (q_ 8 (.move (t_ 2))),
 (q_ 9 (.call (.func 43) [(t_ 8)])),
 (q_ 10 (.bin .and 42 (t_ 7) (t_ 9))),
 (q_ 11 (.move (t_ 1))),
 (q_ 12 (.bi .max [3, 3].toArray 3 [(t_ 11), (k_ 0)])),
 (q_ 13 (.bin .shr 42 (t_ 10) (t_ 12))),
 (q_ 6 (.move (t_ 13)))])
 (.ret))
theorem text46 : FnText Tryz.prog 46 [] 14 3 ac46 [(6, none)] :=
 ⟨Tryz.call46, follows, Tryz.f46, _, Tryz.func46, rfl, rfl, by decide, by kernel_rfl, by kernel_rfl⟩

def ac47_G1 : List AOper :=
 [⟨(some 12), .move (t_ 1), (some (11, false)), false⟩,
 ⟨(some 13), .bin .lss 3 (t_ 12) (k_ 0), (some (11, false)), false⟩,
 (q_ 14 (.pick (t_ 11) (.const (.bool true)) (t_ 13)))]
def ac47_G2 : List AOper :=
 [⟨(some 16), .move (t_ 1), (some (15, false)), false⟩,
 ⟨(some 17), .move (t_ 2), (some (15, false)), false⟩,
 ⟨(some 18), .bin .sub 3 (k_ 32) (t_ 17), (some (15, false)), false⟩,
 ⟨(some 19), .bin .gtr 3 (t_ 16) (t_ 18), (some (15, false)), false⟩,
 (q_ 20 (.pick (t_ 15) (.const (.bool true)) (t_ 19)))]
/-- patchbay/bitvec.Slice -/
def ac47 : AC :=
 .seq (.region false [(q_ 6 (.move (.const (.int .u32 0))))])
 (.seq (.seq (.region false ((q_ 7 (.move (t_ 2))) :: (q_ 8 (.bslice false 3 1 false [(t_ 7)])) :: (q_ 9 (.call (.func 87) [(t_ 8)])) :: (q_ 10 (.un .not (t_ 9))) :: (q_ 11 (.move (t_ 10))) :: (ac47_G1 ++ ((q_ 15 (.move (t_ 14))) :: (ac47_G2 ++ [])))))
 (.cond (t_ 20)
 (.seq (.region false [(q_ 6 (.move (.const (.int .u32 0))))])
 (.ret))
 (.skip)))
 (.seq (.region true [(q_ 21 (.move (t_ 0))),
 (q_ 22 (.move (t_ 1))),
 (q_ 23 (.bin .shr 42 (t_ 21) (t_ 22))),
 (q_ 24 (.move (t_ 2))),
 (q_ 25 (.call (.func 43) [(t_ 24)])),
 (q_ 26 (.bin .and 42 (t_ 23) (t_ 25))),
 (q_ 6 (.move (t_ 26)))])
 (.ret)))
theorem text47 : FnText Tryz.prog 47 [] 27 3 ac47 [(6, none)] :=
 ⟨Tryz.call47, follows, Tryz.f47, _, Tryz.func47, rfl, rfl, by decide, by kernel_rfl, by kernel_rfl⟩


/-- patchbay/expr.unary -/
def ac28 : AC :=
 .seq (.region false [(q_ 2 (.box false 55 (t_ 0))),
 (q_ 3 (.box false 71 (t_ 1))),
 (q_ 4 (.alloc true 71 (.agg [(.int .u32 0), (.int .i64 0)].toArray)))])
 (.seq (.seq (.region false [(q_ 5 (.faddr 0 1 false (t_ 2))),
 (q_ 6 (.load 1 false (t_ 5)))])
 (.block 0 (.seq (.region false [(q_ 8 (.bin .eql 3 (t_ 6) (k_ 5))),
 (q_ 7 (.move (t_ 8)))])
 (.cond (t_ 7)
 (.seq (.region true [(q_ 9 (.faddr 0 1 false (t_ 3))),
 (q_ 10 (.load 1 false (t_ 9))),
 (q_ 11 (.faddr 1 1 false (t_ 3))),
 (q_ 12 (.load 1 false (t_ 11))),
 (q_ 13 (.call (.func 44) [(t_ 10), (t_ 12)])),
 (q_ 14 (.faddr 1 1 false (t_ 3))),
 (q_ 15 (.load 1 false (t_ 14))),
 (q_ 16 (.build [(.int .u32 0), (.int .i64 0)] [(0, 1, (t_ 13)), (1, 1, (t_ 15))])),
 ⟨none, .store 2 (t_ 4) (t_ 16), none, false⟩])
 (.ret))
 (.seq (.region false [(q_ 18 (.bin .eql 3 (t_ 6) (k_ 6))),
 (q_ 17 (.move (t_ 18)))])
 (.cond (t_ 17)
 (.seq (.region true [(q_ 19 (.faddr 0 1 false (t_ 3))),
 (q_ 20 (.load 1 false (t_ 19))),
 (q_ 21 (.faddr 1 1 false (t_ 2))),
 (q_ 22 (.load 1 false (t_ 21))),
 (q_ 23 (.faddr 1 1 false (t_ 3))),
 (q_ 24 (.load 1 false (t_ 23))),
 (q_ 25 (.call (.func 45) [(t_ 20), (t_ 22), (t_ 24)])),
 (q_ 26 (.faddr 1 1 false (t_ 3))),
 (q_ 27 (.load 1 false (t_ 26))),
 (q_ 28 (.build [(.int .u32 0), (.int .i64 0)] [(0, 1, (t_ 25)), (1, 1, (t_ 27))])),
 ⟨none, .store 2 (t_ 4) (t_ 28), none, false⟩])
 (.ret))
 (.seq (.region false [(q_ 30 (.bin .eql 3 (t_ 6) (k_ 7))),
 (q_ 29 (.move (t_ 30)))])
 (.cond (t_ 29)
 (.seq (.region true [(q_ 31 (.faddr 0 1 false (t_ 3))),
 (q_ 32 (.load 1 false (t_ 31))),
 (q_ 33 (.faddr 1 1 false (t_ 2))),
 (q_ 34 (.load 1 false (t_ 33))),
 (q_ 35 (.faddr 1 1 false (t_ 3))),
 (q_ 36 (.load 1 false (t_ 35))),
 (q_ 37 (.call (.func 46) [(t_ 32), (t_ 34), (t_ 36)])),
 (q_ 38 (.faddr 1 1 false (t_ 3))),
 (q_ 39 (.load 1 false (t_ 38))),
 (q_ 40 (.build [(.int .u32 0), (.int .i64 0)] [(0, 1, (t_ 37)), (1, 1, (t_ 39))])),
 ⟨none, .store 2 (t_ 4) (t_ 40), none, false⟩])
 (.ret))
 (.skip)))))))))
 (.seq (.region true [(q_ 41 (.faddr 0 1 false (t_ 3))),
 (q_ 42 (.load 1 false (t_ 41))),
 (q_ 43 (.faddr 1 1 false (t_ 2))),
 (q_ 44 (.load 1 false (t_ 43))),
 (q_ 45 (.faddr 2 1 false (t_ 2))),
 (q_ 46 (.load 1 false (t_ 45))),
 (q_ 47 (.call (.func 47) [(t_ 42), (t_ 44), (t_ 46)])),
 (q_ 48 (.faddr 2 1 false (t_ 2))),
 (q_ 49 (.load 1 false (t_ 48))),
 (q_ 50 (.build [(.int .u32 0), (.int .i64 0)] [(0, 1, (t_ 47)), (1, 1, (t_ 49))])),
 ⟨none, .store 2 (t_ 4) (t_ 50), none, false⟩])
 (.ret)))
theorem text28 : FnText Tryz.prog 28 [4] 51 2 ac28 [(4, some (2, true))] :=
 ⟨Tryz.call28, follows, Tryz.f28, _, Tryz.func28, rfl, rfl, by decide, by kernel_rfl, by kernel_rfl⟩


/-- patchbay/bitvec.Add -/
def ac48 : AC :=
 .seq (.region false [(q_ 6 (.move (.const (.int .u32 0))))])
 (.seq (.region false [(q_ 7 (.move (t_ 0))),
 (q_ 8 (.move (t_ 1))),
 (q_ 9 (.bin .add 42 (t_ 7) (t_ 8))),
 (q_ 10 (.move (t_ 2))),
 (q_ 11 (.call (.func 43) [(t_ 10)])),
 (q_ 12 (.bin .and 42 (t_ 9) (t_ 11))),
 (q_ 6 (.move (t_ 12)))])
 (.ret))
theorem text48 : FnText Tryz.prog 48 [] 13 3 ac48 [(6, none)] :=
 ⟨Tryz.call48, follows, Tryz.f48, _, Tryz.func48, rfl, rfl, by decide, by kernel_rfl, by kernel_rfl⟩


/-- patchbay/bitvec.Sub -/
def ac49 : AC :=
 .seq (.region false [(q_ 6 (.move (.const (.int .u32 0))))])
 (.seq (.region false [(q_ 7 (.move (t_ 0))),
 (q_ 8 (.move (t_ 1))),
 (q_ 9 (.bin .sub 42 (t_ 7) (t_ 8))),
 (q_ 10 (.move (t_ 2))),
 (q_ 11 (.call (.func 43) [(t_ 10)])),
 (q_ 12 (.bin .and 42 (t_ 9) (t_ 11))),
 (q_ 6 (.move (t_ 12)))])
 (.ret))
theorem text49 : FnText Tryz.prog 49 [] 13 3 ac49 [(6, none)] :=
 ⟨Tryz.call49, follows, Tryz.f49, _, Tryz.func49, rfl, rfl, by decide, by kernel_rfl, by kernel_rfl⟩

def ac50_G1 : List AOper :=
 [⟨(some 16), .move (t_ 1), (some (15, false)), false⟩,
 ⟨(some 17), .move (t_ 3), (some (15, false)), false⟩,
 ⟨(some 18), .bin .add 3 (t_ 16) (t_ 17), (some (15, false)), false⟩,
 ⟨(some 19), .bin .gtr 3 (t_ 18) (k_ 32), (some (15, false)), false⟩,
 (q_ 20 (.pick (t_ 15) (.const (.bool true)) (t_ 19)))]
/-- patchbay/bitvec.Concat -/
def ac50 : AC :=
 .seq (.region false [(q_ 8 (.move (.const (.int .u32 0)))),
 (q_ 9 (.move (.const (.bool false))))])
 (.seq (.seq (.region false ((q_ 10 (.move (t_ 1))) :: (q_ 11 (.move (t_ 3))) :: (q_ 12 (.bslice false 3 1 false [(t_ 10), (t_ 11)])) :: (q_ 13 (.call (.func 87) [(t_ 12)])) :: (q_ 14 (.un .not (t_ 13))) :: (q_ 15 (.move (t_ 14))) :: (ac50_G1 ++ [])))
 (.cond (t_ 20)
 (.seq (.region false [(q_ 8 (.move (.const (.int .u32 0)))),
 (q_ 9 (.move (.const (.bool false))))])
 (.ret))
 (.skip)))
 (.seq (.region true [(q_ 21 (.move (t_ 0))),
 (q_ 22 (.move (t_ 1))),
 (q_ 23 (.call (.func 43) [(t_ 22)])),
 (q_ 24 (.bin .and 42 (t_ 21) (t_ 23))),
 (q_ 25 (.move (t_ 3))),
 (q_ 26 (.bin .shl 42 (t_ 24) (t_ 25))),
 (q_ 27 (.move (t_ 2))),
 (q_ 28 (.move (t_ 3))),
 (q_ 29 (.call (.func 43) [(t_ 28)])),
 (q_ 30 (.bin .and 42 (t_ 27) (t_ 29))),
 (q_ 31 (.bin .or 42 (t_ 26) (t_ 30))),
 (q_ 8 (.move (t_ 31))),
 (q_ 9 (.move (.const (.bool true))))])
 (.ret)))
theorem text50 : FnText Tryz.prog 50 [] 32 4 ac50 [(8, none), (9, none)] :=
 ⟨Tryz.call50, follows, Tryz.f50, _, Tryz.func50, rfl, rfl, by decide, by kernel_rfl, by kernel_rfl⟩


/-- patchbay/expr.truth -/
def ac51 : AC :=
 .seq (.region false [(q_ 2 (.alloc true 71 (.agg [(.int .u32 0), (.int .i64 0)].toArray)))])
 (.seq (.seq (.region false [(q_ 3 (.move (t_ 0)))])
 (.cond (t_ 3)
 (.seq (.region false [(q_ 4 (.build [(.int .u32 0), (.int .i64 0)] [(0, 1, (.const (.int .u32 1))), (1, 1, (k_ 1))])),
 ⟨none, .store 2 (t_ 2) (t_ 4), none, false⟩])
 (.ret))
 (.skip)))
 (.seq (.region false [(q_ 5 (.build [(.int .u32 0), (.int .i64 0)] [(0, 1, (.const (.int .u32 0))), (1, 1, (k_ 1))])),
 ⟨none, .store 2 (t_ 2) (t_ 5), none, false⟩])
 (.ret)))
theorem text51 : FnText Tryz.prog 51 [2] 6 1 ac51 [(2, some (2, true))] :=
 ⟨Tryz.call51, follows, Tryz.f51, _, Tryz.func51, rfl, rfl, by decide, by kernel_rfl, by kernel_rfl⟩


/-- patchbay/expr.binary -/
def ac29 : AC :=
 .seq (.region false [(q_ 4 (.box false 71 (t_ 1))),
 (q_ 5 (.box false 71 (t_ 2))),
 (q_ 6 (.alloc true 71 (.agg [(.int .u32 0), (.int .i64 0)].toArray)))])
 (.seq (.seq (.region false [(q_ 9 (.move (t_ 0)))])
 (.block 0 (.seq (.region false [(q_ 11 (.bin .eql 3 (t_ 9) (k_ 9))),
 (q_ 10 (.move (t_ 11)))])
 (.cond (t_ 10)
 (.seq (.region true [(q_ 12 (.faddr 0 1 false (t_ 4))),
 (q_ 13 (.load 1 false (t_ 12))),
 (q_ 14 (.faddr 0 1 false (t_ 5))),
 (q_ 15 (.load 1 false (t_ 14))),
 (q_ 16 (.faddr 1 1 false (t_ 4))),
 (q_ 17 (.load 1 false (t_ 16))),
 (q_ 18 (.call (.func 48) [(t_ 13), (t_ 15), (t_ 17)])),
 (q_ 19 (.faddr 1 1 false (t_ 4))),
 (q_ 20 (.load 1 false (t_ 19))),
 (q_ 21 (.build [(.int .u32 0), (.int .i64 0)] [(0, 1, (t_ 18)), (1, 1, (t_ 20))])),
 ⟨none, .store 2 (t_ 6) (t_ 21), none, false⟩])
 (.ret))
 (.seq (.region false [(q_ 23 (.bin .eql 3 (t_ 9) (k_ 10))),
 (q_ 22 (.move (t_ 23)))])
 (.cond (t_ 22)
 (.seq (.region true [(q_ 24 (.faddr 0 1 false (t_ 4))),
 (q_ 25 (.load 1 false (t_ 24))),
 (q_ 26 (.faddr 0 1 false (t_ 5))),
 (q_ 27 (.load 1 false (t_ 26))),
 (q_ 28 (.faddr 1 1 false (t_ 4))),
 (q_ 29 (.load 1 false (t_ 28))),
 (q_ 30 (.call (.func 49) [(t_ 25), (t_ 27), (t_ 29)])),
 (q_ 31 (.faddr 1 1 false (t_ 4))),
 (q_ 32 (.load 1 false (t_ 31))),
 (q_ 33 (.build [(.int .u32 0), (.int .i64 0)] [(0, 1, (t_ 30)), (1, 1, (t_ 32))])),
 ⟨none, .store 2 (t_ 6) (t_ 33), none, false⟩])
 (.ret))
 (.seq (.region false [(q_ 35 (.bin .eql 3 (t_ 9) (k_ 11))),
 (q_ 34 (.move (t_ 35)))])
 (.cond (t_ 34)
 (.seq (.region false [(q_ 36 (.faddr 0 1 false (t_ 4))),
 (q_ 37 (.load 1 false (t_ 36))),
 (q_ 38 (.faddr 0 1 false (t_ 5))),
 (q_ 39 (.load 1 false (t_ 38))),
 (q_ 40 (.bin .and 42 (t_ 37) (t_ 39))),
 (q_ 41 (.faddr 1 1 false (t_ 4))),
 (q_ 42 (.load 1 false (t_ 41))),
 (q_ 43 (.build [(.int .u32 0), (.int .i64 0)] [(0, 1, (t_ 40)), (1, 1, (t_ 42))])),
 ⟨none, .store 2 (t_ 6) (t_ 43), none, false⟩])
 (.ret))
 (.seq (.region false [(q_ 45 (.bin .eql 3 (t_ 9) (k_ 12))),
 (q_ 44 (.move (t_ 45)))])
 (.cond (t_ 44)
 (.seq (.region false [(q_ 46 (.faddr 0 1 false (t_ 4))),
 (q_ 47 (.load 1 false (t_ 46))),
 (q_ 48 (.faddr 0 1 false (t_ 5))),
 (q_ 49 (.load 1 false (t_ 48))),
 (q_ 50 (.bin .or 42 (t_ 47) (t_ 49))),
 (q_ 51 (.faddr 1 1 false (t_ 4))),
 (q_ 52 (.load 1 false (t_ 51))),
 (q_ 53 (.build [(.int .u32 0), (.int .i64 0)] [(0, 1, (t_ 50)), (1, 1, (t_ 52))])),
 ⟨none, .store 2 (t_ 6) (t_ 53), none, false⟩])
 (.ret))
 (.seq (.region false [(q_ 55 (.bin .eql 3 (t_ 9) (k_ 13))),
 (q_ 54 (.move (t_ 55)))])
 (.cond (t_ 54)
 (.seq (.region false [(q_ 56 (.faddr 0 1 false (t_ 4))),
 (q_ 57 (.load 1 false (t_ 56))),
 (q_ 58 (.faddr 0 1 false (t_ 5))),
 (q_ 59 (.load 1 false (t_ 58))),
 (q_ 60 (.bin .xor 42 (t_ 57) (t_ 59))),
 (q_ 61 (.faddr 1 1 false (t_ 4))),
 (q_ 62 (.load 1 false (t_ 61))),
 (q_ 63 (.build [(.int .u32 0), (.int .i64 0)] [(0, 1, (t_ 60)), (1, 1, (t_ 62))])),
 ⟨none, .store 2 (t_ 6) (t_ 63), none, false⟩])
 (.ret))
 (.seq (.region false [(q_ 65 (.bin .eql 3 (t_ 9) (k_ 14))),
 (q_ 64 (.move (t_ 65)))])
 (.cond (t_ 64)
 (.seq (.region false [(q_ 67 (.faddr 0 1 false (t_ 4))),
 (q_ 68 (.load 1 false (t_ 67))),
 (q_ 69 (.faddr 1 1 false (t_ 4))),
 (q_ 70 (.load 1 false (t_ 69))),
 (q_ 71 (.faddr 0 1 false (t_ 5))),
 (q_ 72 (.load 1 false (t_ 71))),
 (q_ 73 (.faddr 1 1 false (t_ 5))),
 (q_ 74 (.load 1 false (t_ 73))),
 (q_ 75 (.call (.func 50) [(t_ 68), (t_ 70), (t_ 72), (t_ 74)])),
 (q_ 66 (.move (t_ 75))),
 (q_ 76 (.extract (t_ 66) 0)),
 (q_ 77 (.extract (t_ 66) 1)),
 (q_ 7 (.move (t_ 76))),
 (q_ 8 (.move (t_ 77)))])
 (.seq (.region false [(q_ 78 (.move (t_ 7))),
 (q_ 79 (.faddr 1 1 false (t_ 4))),
 (q_ 80 (.load 1 false (t_ 79))),
 (q_ 81 (.faddr 1 1 false (t_ 5))),
 (q_ 82 (.load 1 false (t_ 81))),
 (q_ 83 (.bin .add 3 (t_ 80) (t_ 82))),
 (q_ 84 (.build [(.int .u32 0), (.int .i64 0)] [(0, 1, (t_ 78)), (1, 1, (t_ 83))])),
 ⟨none, .store 2 (t_ 6) (t_ 84), none, false⟩])
 (.ret)))
 (.seq (.region false [(q_ 86 (.bin .eql 3 (t_ 9) (k_ 15))),
 (q_ 85 (.move (t_ 86)))])
 (.cond (t_ 85)
 (.seq (.region false [(q_ 87 (.faddr 0 1 false (t_ 4))),
 (q_ 88 (.load 1 false (t_ 87))),
 (q_ 89 (.faddr 0 1 false (t_ 5))),
 (q_ 90 (.load 1 false (t_ 89))),
 (q_ 91 (.bin .eql 42 (t_ 88) (t_ 90))),
 (q_ 92 (.call (.func 51) [(t_ 91)])),
 ⟨none, .store 2 (t_ 6) (t_ 92), none, false⟩])
 (.ret))
 (.skip)))))))))))))))))
 (.seq (.region false [(q_ 93 (.faddr 0 1 false (t_ 4))),
 (q_ 94 (.load 1 false (t_ 93))),
 (q_ 95 (.faddr 0 1 false (t_ 5))),
 (q_ 96 (.load 1 false (t_ 95))),
 (q_ 97 (.bin .lss 42 (t_ 94) (t_ 96))),
 (q_ 98 (.call (.func 51) [(t_ 97)])),
 ⟨none, .store 2 (t_ 6) (t_ 98), none, false⟩])
 (.ret)))
theorem text29 : FnText Tryz.prog 29 [6] 99 3 ac29 [(6, some (2, true))] :=
 ⟨Tryz.call29, follows, Tryz.f29, _, Tryz.func29, rfl, rfl, by decide, by kernel_rfl, by kernel_rfl⟩


/-- (*patchbay/expr.machine).eval -/
def ac15 : AC :=
 .seq (.region false [(q_ 2 (.alloc true 71 (.agg [(.int .u32 0), (.int .i64 0)].toArray)))])
 (.seq (.region true [(q_ 9 (.move (t_ 0))),
 (q_ 10 (.nilCheck (t_ 9))),
 (q_ 11 (.faddr 15 1 false (t_ 10))),
 (q_ 12 (.load 1 false (t_ 11))),
 (q_ 13 (.move (t_ 0))),
 (q_ 14 (.nilCheck (t_ 13))),
 (q_ 15 (.faddr 16 1 false (t_ 14))),
 (q_ 16 (.load 1 false (t_ 15))),
 (q_ 17 (.iaddr 3 (t_ 12) (t_ 16))),
 (q_ 18 (.load 3 true (t_ 17))),
 (q_ 3 (.alloc true 55 (.agg [(.int .i64 0), (.int .i64 0), (.int .i64 0)].toArray))),
 ⟨none, .store 3 (t_ 3) (t_ 18), none, false⟩])
 (.seq (.region false [(q_ 19 (.move (t_ 0))),
 (q_ 20 (.nilCheck (t_ 19))),
 (q_ 21 (.faddr 16 1 false (t_ 20))),
 (q_ 22 (.load 1 false (t_ 21))),
 (q_ 23 (.bin .add 3 (t_ 22) (k_ 1))),
 (q_ 24 (.nilCheck (t_ 19))),
 (q_ 25 (.faddr 16 1 false (t_ 24))),
 ⟨none, .store 1 (t_ 25) (t_ 23), none, false⟩])
 (.seq (.seq (.region false [(q_ 26 (.faddr 0 1 false (t_ 3))),
 (q_ 27 (.load 1 false (t_ 26))),
 (q_ 28 (.call (.func 19) [(t_ 27)]))])
 (.block 0 (.seq (.region false [(q_ 30 (.bin .eql 3 (t_ 28) (k_ 0))),
 (q_ 29 (.move (t_ 30)))])
 (.cond (t_ 29)
 (.seq (.region false [(q_ 31 (.move (t_ 0))),
 (q_ 32 (.load 3 true (t_ 3))),
 (q_ 33 (.call (.func 27) [(t_ 31), (t_ 32)])),
 ⟨none, .store 2 (t_ 2) (t_ 33), none, false⟩])
 (.ret))
 (.seq (.region false [(q_ 35 (.bin .eql 3 (t_ 28) (k_ 1))),
 (q_ 34 (.move (t_ 35)))])
 (.cond (t_ 34)
 (.seq (.regionU [⟨(some 36), .load 3 true (t_ 3), none, true⟩,
 (q_ 37 (.move (t_ 0))),
 (q_ 38 (.call (.func 15) [(t_ 37)])),
 (q_ 39 (.call (.func 28) [(t_ 36), (t_ 38)])),
 ⟨none, .store 2 (t_ 2) (t_ 39), none, false⟩])
 (.ret))
 (.seq (.region false [(q_ 41 (.bin .eql 3 (t_ 28) (k_ 2))),
 (q_ 40 (.move (t_ 41)))])
 (.cond (t_ 40)
 (.seq (.region false [(q_ 42 (.move (t_ 0))),
 (q_ 43 (.call (.func 15) [(t_ 42)])),
 (q_ 4 (.alloc true 71 (.agg [(.int .u32 0), (.int .i64 0)].toArray))),
 ⟨none, .store 2 (t_ 4) (t_ 43), none, false⟩])
 (.seq (.region false [(q_ 44 (.move (t_ 0))),
 (q_ 45 (.call (.func 15) [(t_ 44)])),
 (q_ 5 (.alloc true 71 (.agg [(.int .u32 0), (.int .i64 0)].toArray))),
 ⟨none, .store 2 (t_ 5) (t_ 45), none, false⟩])
 (.seq (.region false [(q_ 46 (.faddr 0 1 false (t_ 3))),
 (q_ 47 (.load 1 false (t_ 46))),
 (q_ 48 (.load 2 true (t_ 4))),
 (q_ 49 (.load 2 true (t_ 5))),
 (q_ 50 (.call (.func 29) [(t_ 47), (t_ 48), (t_ 49)])),
 ⟨none, .store 2 (t_ 2) (t_ 50), none, false⟩])
 (.ret))))
 (.skip)))))))))
 (.seq (.region false [(q_ 51 (.move (t_ 0))),
 (q_ 52 (.call (.func 15) [(t_ 51)])),
 (q_ 6 (.alloc true 71 (.agg [(.int .u32 0), (.int .i64 0)].toArray))),
 ⟨none, .store 2 (t_ 6) (t_ 52), none, false⟩])
 (.seq (.region false [(q_ 53 (.move (t_ 0))),
 (q_ 54 (.call (.func 15) [(t_ 53)])),
 (q_ 7 (.alloc true 71 (.agg [(.int .u32 0), (.int .i64 0)].toArray))),
 ⟨none, .store 2 (t_ 7) (t_ 54), none, false⟩])
 (.seq (.region false [(q_ 55 (.move (t_ 0))),
 (q_ 56 (.call (.func 15) [(t_ 55)])),
 (q_ 8 (.alloc true 71 (.agg [(.int .u32 0), (.int .i64 0)].toArray))),
 ⟨none, .store 2 (t_ 8) (t_ 56), none, false⟩])
 (.seq (.seq (.region false [(q_ 57 (.faddr 0 1 false (t_ 6))),
 (q_ 58 (.load 1 false (t_ 57))),
 (q_ 59 (.bin .eql 42 (t_ 58) (.const (.int .u32 1))))])
 (.cond (t_ 59)
 (.seq (.region false [(q_ 60 (.load 2 true (t_ 7))),
 ⟨none, .store 2 (t_ 2) (t_ 60), none, false⟩])
 (.ret))
 (.skip)))
 (.seq (.region false [(q_ 61 (.load 2 true (t_ 8))),
 ⟨none, .store 2 (t_ 2) (t_ 61), none, false⟩])
 (.ret)))))))))
theorem text15 : FnText Tryz.prog 15 [2, 3, 4, 5, 6, 7, 8, 1000000] 62 1 ac15 [(2, some (2, true))] :=
 ⟨Tryz.call15, follows, Tryz.f15, _, Tryz.func15, rfl, rfl, by decide, by kernel_rfl, by kernel_rfl⟩


/-- patchbay/expr.Eval -/
def ac5 : AC :=
 .seq (.region false [(q_ 5 (.box false 45 (t_ 1))),
 (q_ 6 (.box false 38 (t_ 2))),
 (q_ 8 (.move (.const (.int .u32 0))))])
 (.seq (.seq (.region false [(q_ 13 (.move (t_ 0))),
 (q_ 14 (.load 10 true (t_ 5))),
 (q_ 15 (.call (.func 9) [(t_ 13), (t_ 14)])),
 (q_ 12 (.move (t_ 15))),
 (q_ 16 (.extract (t_ 12) 0)),
 (q_ 17 (.extract (t_ 12) 1)),
 (q_ 9 (.move (t_ 16))),
 (q_ 10 (.move (t_ 17)))])
 (.seq (.region false [(q_ 18 (.move (t_ 10))),
 (q_ 19 (.bin .neq 57 (t_ 18) (k_ 0)))])
 (.cond (t_ 19)
 (.seq (.region false [(q_ 8 (.move (.const (.int .u32 0))))])
 (.ret))
 (.skip))))
 (.seq (.region false [(q_ 20 (.load 10 true (t_ 5))),
 (q_ 21 (.load 4 true (t_ 6))),
 (q_ 22 (.move (t_ 3))),
 (q_ 23 (.move (t_ 0))),
 ⟨(some 24), .build [(.string ⟨[].toArray⟩), (.slice none 0 0), (.slice none 0 0), (.slice none 0 0), (.slice none 0 0), (.slice none 0 0), (.slice none 0 0), (.slice none 0 0), (.slice none 0 0), (.slice none 0 0), (.slice none 0 0), (.slice none 0 0), (.slice none 0 0), (.slice none 0 0), (.slice none 0 0), (.slice none 0 0), (.int .i64 0)] [(0, 10, (t_ 20)), (10, 4, (t_ 21)), (14, 1, (t_ 22)), (15, 1, (t_ 23))], none, false⟩,
 ⟨(some 11), .alloc true 69 (.agg [(.string ⟨[].toArray⟩), (.slice none 0 0), (.slice none 0 0), (.slice none 0 0), (.slice none 0 0), (.slice none 0 0), (.slice none 0 0), (.slice none 0 0), (.slice none 0 0), (.slice none 0 0), (.slice none 0 0), (.slice none 0 0), (.slice none 0 0), (.slice none 0 0), (.slice none 0 0), (.slice none 0 0), (.int .i64 0)].toArray), none, false⟩,
 ⟨none, .store 17 (t_ 11) (t_ 24), none, false⟩])
 (.seq (.region false [(q_ 25 (.call (.func 15) [(t_ 11)])),
 (q_ 26 (.field 0 1 false (t_ 25))),
 (q_ 8 (.move (t_ 26)))])
 (.ret))))
theorem text5 : FnText Tryz.prog 5 [11] 27 4 ac5 [(8, none)] :=
 ⟨Tryz.call5, follows, Tryz.f5, _, Tryz.func5, rfl, rfl, by decide, by kernel_rfl, by kernel_rfl⟩

def ac34_G1 : List AOper :=
 [⟨(some 7), .move (t_ 0), (some (6, true)), false⟩,
 ⟨(some 8), .bin .leq 3 (t_ 7) (k_ 4), (some (6, true)), false⟩,
 (q_ 9 (.pick (t_ 6) (t_ 8) (.const (.bool false))))]
def ac34_G2 : List AOper :=
 [⟨(some 14), .move (t_ 0), (some (13, true)), false⟩,
 ⟨(some 15), .bin .leq 3 (t_ 14) (k_ 8), (some (13, true)), false⟩,
 (q_ 16 (.pick (t_ 13) (t_ 15) (.const (.bool false))))]
def ac34_G3 : List AOper :=
 [⟨(some 21), .move (t_ 0), (some (20, true)), false⟩,
 ⟨(some 22), .bin .leq 3 (t_ 21) (k_ 16), (some (20, true)), false⟩,
 (q_ 23 (.pick (t_ 20) (t_ 22) (.const (.bool false))))]
/-- patchbay/patchbayref13.Arity -/
def ac34 : AC :=
 .seq (.region false [(q_ 2 (.move (k_ 0)))])
 (.seq (.block 0 (.seq (.region false ((q_ 4 (.move (t_ 0))) :: (q_ 5 (.bin .geq 3 (t_ 4) (k_ 1))) :: (q_ 6 (.move (t_ 5))) :: (ac34_G1 ++ [(q_ 3 (.move (t_ 9)))])))
 (.cond (t_ 3)
 (.seq (.region false [(q_ 2 (.move (k_ 0)))])
 (.ret))
 (.seq (.region false ((q_ 11 (.move (t_ 0))) :: (q_ 12 (.bin .geq 3 (t_ 11) (k_ 5))) :: (q_ 13 (.move (t_ 12))) :: (ac34_G2 ++ [(q_ 10 (.move (t_ 16)))])))
 (.cond (t_ 10)
 (.seq (.region false [(q_ 2 (.move (k_ 1)))])
 (.ret))
 (.seq (.region false ((q_ 18 (.move (t_ 0))) :: (q_ 19 (.bin .geq 3 (t_ 18) (k_ 9))) :: (q_ 20 (.move (t_ 19))) :: (ac34_G3 ++ [(q_ 17 (.move (t_ 23)))])))
 (.cond (t_ 17)
 (.seq (.region false [(q_ 2 (.move (k_ 2)))])
 (.ret))
 (.seq (.region false [(q_ 25 (.move (t_ 0))),
 (q_ 26 (.bin .eql 3 (t_ 25) (k_ 17))),
 (q_ 24 (.move (t_ 26)))])
 (.cond (t_ 24)
 (.seq (.region false [(q_ 2 (.move (k_ 3)))])
 (.ret))
 (.skip))))))))))
 (.seq (.region false [(q_ 2 (.move (.const (.int .i64 (-1)))))])
 (.ret)))
theorem text34 : FnText Tryz.prog 34 [] 27 1 ac34 [(2, none)] :=
 ⟨Tryz.call34, follows, Tryz.f34, _, Tryz.func34, rfl, rfl, by decide, by kernel_rfl, by kernel_rfl⟩

def ac88_G1 : List AOper :=
 [⟨(some 7), .move (t_ 0), (some (6, false)), false⟩,
 ⟨(some 8), .bin .gtr 3 (t_ 7) (k_ 32), (some (6, false)), false⟩,
 (q_ 9 (.pick (t_ 6) (.const (.bool true)) (t_ 8)))]
/-- patchbay/patchbayref13.wide -/
def ac88 : AC :=
 .seq (.region false [(q_ 2 (.move (k_ 0))),
 (q_ 3 (.move (k_ 0)))])
 (.seq (.seq (.region false ((q_ 4 (.move (t_ 0))) :: (q_ 5 (.bin .lss 3 (t_ 4) (k_ 1))) :: (q_ 6 (.move (t_ 5))) :: (ac88_G1 ++ [])))
 (.cond (t_ 9)
 (.seq (.region false [(q_ 2 (.move (k_ 0))),
 (q_ 3 (.move (k_ 10)))])
 (.ret))
 (.skip)))
 (.seq (.region false [(q_ 10 (.move (t_ 0))),
 (q_ 2 (.move (t_ 10))),
 (q_ 3 (.move (k_ 0)))])
 (.ret)))
theorem text88 : FnText Tryz.prog 88 [] 11 1 ac88 [(2, none), (3, none)] :=
 ⟨Tryz.call88, follows, Tryz.f88, _, Tryz.func88, rfl, rfl, by decide, by kernel_rfl, by kernel_rfl⟩

def ac54_G1 : List AOper :=
 [⟨(some 6), .move (t_ 0), (some (5, true)), false⟩,
 ⟨(some 7), .bin .leq 3 (t_ 6) (k_ 32), (some (5, true)), false⟩,
 (q_ 8 (.pick (t_ 5) (t_ 7) (.const (.bool false))))]
/-- patchbay/patchbayref01.valid -/
def ac54 : AC :=
 .seq (.region false [(q_ 2 (.move (.const (.bool false))))])
 (.seq (.region false ((q_ 3 (.move (t_ 0))) :: (q_ 4 (.bin .geq 3 (t_ 3) (k_ 1))) :: (q_ 5 (.move (t_ 4))) :: (ac54_G1 ++ [(q_ 2 (.move (t_ 8)))])))
 (.ret))
theorem text54 : FnText Tryz.prog 54 [] 9 1 ac54 [(2, none)] :=
 ⟨Tryz.call54, follows, Tryz.f54, _, Tryz.func54, rfl, rfl, by decide, by kernel_rfl, by kernel_rfl⟩

def ac55_L1 : AC :=
 .seq (.seq (.region false [(q_ 5 (.move (t_ 4))),
 (q_ 6 (.move (t_ 0))),
 (q_ 7 (.bin .lss 3 (t_ 5) (t_ 6)))])
 (.cond (t_ 7)
 (.skip)
 (.exit 0)))
 (.seq (.block 1 (.region false [(q_ 10 (.move (t_ 3))),
 (q_ 11 (.bin .mul 93 (.const (.int .u64 2)) (t_ 10))),
 (q_ 3 (.move (t_ 11)))]))
 (.region false [(q_ 8 (.move (t_ 4))),
 (q_ 9 (.bin .add 3 (t_ 8) (k_ 1))),
 (q_ 4 (.move (t_ 9)))]))
/-- patchbay/patchbayref01.power -/
def ac55 : AC :=
 .seq (.region false [(q_ 2 (.move (.const (.int .u64 0))))])
 (.seq (.region false [(q_ 3 (.move (.const (.int .u64 1))))])
 (.seq (.seq (.region false [(q_ 4 (.move (k_ 0)))])
 (.block 0 (.loop ac55_L1)))
 (.seq (.region false [(q_ 12 (.move (t_ 3))),
 (q_ 2 (.move (t_ 12)))])
 (.ret))))
theorem text55 : FnText Tryz.prog 55 [] 13 1 ac55 [(2, none)] :=
 ⟨Tryz.call55, follows, Tryz.f55, _, Tryz.func55, rfl, rfl, by decide, by kernel_rfl, by kernel_rfl⟩


/-- patchbay/patchbayref01.Mask -/
def ac89 : AC :=
 .seq (.region false [(q_ 2 (.move (.const (.int .u32 0))))])
 (.seq (.seq (.region false [(q_ 3 (.move (t_ 0))),
 (q_ 4 (.call (.func 54) [(t_ 3)])),
 (q_ 5 (.un .not (t_ 4)))])
 (.cond (t_ 5)
 (.seq (.region false [(q_ 2 (.move (.const (.int .u32 0))))])
 (.ret))
 (.skip)))
 (.seq (.region false [(q_ 6 (.move (t_ 0))),
 (q_ 7 (.call (.func 55) [(t_ 6)])),
 (q_ 8 (.bin .sub 93 (t_ 7) (.const (.int .u64 1)))),
 (q_ 9 (.conv 93 42 (t_ 8))),
 (q_ 2 (.move (t_ 9)))])
 (.ret)))
theorem text89 : FnText Tryz.prog 89 [] 10 1 ac89 [(2, none)] :=
 ⟨Tryz.call89, follows, Tryz.f89, _, Tryz.func89, rfl, rfl, by decide, by kernel_rfl, by kernel_rfl⟩

def ac90_G1 : List AOper :=
 [⟨(some 16), .faddr 0 1 false (t_ 3), (some (15, false)), false⟩,
 ⟨(some 17), .load 1 false (t_ 16), (some (15, false)), false⟩,
 ⟨(some 18), .faddr 1 1 false (t_ 2), (some (15, false)), false⟩,
 ⟨(some 19), .load 1 false (t_ 18), (some (15, false)), false⟩,
 ⟨(some 20), .bi .len [22].toArray 3 [(t_ 19)], (some (15, false)), false⟩,
 ⟨(some 21), .bin .geq 3 (t_ 17) (t_ 20), (some (15, false)), false⟩,
 (q_ 22 (.pick (t_ 15) (.const (.bool true)) (t_ 21)))]
def ac90_G2 : List AOper :=
 [⟨(some 34), .faddr 1 1 false (t_ 3), (some (33, false)), false⟩,
 ⟨(some 35), .load 1 false (t_ 34), (some (33, false)), false⟩,
 ⟨(some 36), .move (t_ 6), (some (33, false)), false⟩,
 ⟨(some 37), .bi .len [23].toArray 3 [(t_ 36)], (some (33, false)), false⟩,
 ⟨(some 38), .bin .geq 3 (t_ 35) (t_ 37), (some (33, false)), false⟩,
 (q_ 39 (.pick (t_ 33) (.const (.bool true)) (t_ 38)))]
/-- patchbay/patchbayref13.Declared -/
def ac90 : AC :=
 .seq (.region false [(q_ 2 (.box false 31 (t_ 0))),
 (q_ 3 (.box false 65 (t_ 1))),
 (q_ 4 (.move (k_ 0))),
 (q_ 5 (.move (.const (.bool false))))])
 (.seq (.region false [(q_ 7 (.faddr 2 1 false (t_ 2))),
 (q_ 8 (.load 1 false (t_ 7))),
 (q_ 6 (.move (t_ 8)))])
 (.seq (.seq (.region false [(q_ 9 (.faddr 0 1 false (t_ 3))),
 (q_ 10 (.load 1 false (t_ 9))),
 (q_ 11 (.bin .neq 3 (t_ 10) (.const (.int .i64 (-1)))))])
 (.cond (t_ 11)
 (.seq (.seq (.region false ((q_ 12 (.faddr 0 1 false (t_ 3))) :: (q_ 13 (.load 1 false (t_ 12))) :: (q_ 14 (.bin .lss 3 (t_ 13) (k_ 0))) :: (q_ 15 (.move (t_ 14))) :: (ac90_G1 ++ [])))
 (.cond (t_ 22)
 (.seq (.region false [(q_ 4 (.move (k_ 0))),
 (q_ 5 (.move (.const (.bool false))))])
 (.ret))
 (.skip)))
 (.region false [(q_ 23 (.faddr 1 1 false (t_ 2))),
 (q_ 24 (.load 1 false (t_ 23))),
 (q_ 25 (.faddr 0 1 false (t_ 3))),
 (q_ 26 (.load 1 false (t_ 25))),
 (q_ 27 (.iaddr 2 (t_ 24) (t_ 26))),
 (q_ 28 (.faddr 1 1 false (t_ 27))),
 (q_ 29 (.load 1 false (t_ 28))),
 (q_ 6 (.move (t_ 29)))]))
 (.skip)))
 (.seq (.seq (.region false ((q_ 30 (.faddr 1 1 false (t_ 3))) :: (q_ 31 (.load 1 false (t_ 30))) :: (q_ 32 (.bin .lss 3 (t_ 31) (k_ 0))) :: (q_ 33 (.move (t_ 32))) :: (ac90_G2 ++ [])))
 (.cond (t_ 39)
 (.seq (.region false [(q_ 4 (.move (k_ 0))),
 (q_ 5 (.move (.const (.bool false))))])
 (.ret))
 (.skip)))
 (.seq (.region false [(q_ 40 (.move (t_ 6))),
 (q_ 41 (.faddr 1 1 false (t_ 3))),
 (q_ 42 (.load 1 false (t_ 41))),
 (q_ 43 (.iaddr 2 (t_ 40) (t_ 42))),
 (q_ 44 (.faddr 1 1 false (t_ 43))),
 (q_ 45 (.load 1 false (t_ 44))),
 (q_ 4 (.move (t_ 45))),
 (q_ 5 (.move (.const (.bool true))))])
 (.ret)))))
theorem text90 : FnText Tryz.prog 90 [] 46 2 ac90 [(4, none), (5, none)] :=
 ⟨Tryz.call90, follows, Tryz.f90, _, Tryz.func90, rfl, rfl, by decide, by kernel_rfl, by kernel_rfl⟩

def ac52_G2 : List AOper :=
 [⟨(some 27), .faddr 1 1 false (t_ 2), (some (26, false)), false⟩,
 ⟨(some 28), .load 1 false (t_ 27), (some (26, false)), false⟩,
 ⟨(some 29), .move (t_ 6), (some (26, false)), false⟩,
 ⟨(some 30), .call (.func 89) [(t_ 29)], (some (26, false)), false⟩,
 ⟨(some 31), .conv 42 3 (t_ 30), (some (26, false)), false⟩,
 ⟨(some 32), .bin .gtr 3 (t_ 28) (t_ 31), (some (26, false)), false⟩,
 ⟨(some 33), .pick (t_ 26) (.const (.bool true)) (t_ 32), (some (22, true)), false⟩]
def ac52_G1 : List AOper :=
 (⟨(some 23), .faddr 1 1 false (t_ 2), (some (22, true)), false⟩ :: ⟨(some 24), .load 1 false (t_ 23), (some (22, true)), false⟩ :: ⟨(some 25), .bin .lss 3 (t_ 24) (k_ 0), (some (22, true)), false⟩ :: ⟨(some 26), .move (t_ 25), (some (22, true)), false⟩ :: (ac52_G2 ++ [(q_ 34 (.pick (t_ 22) (t_ 33) (.const (.bool false))))]))
def ac52_G3 : List AOper :=
 [⟨(some 62), .faddr 1 1 false (t_ 2), (some (61, false)), false⟩,
 ⟨(some 63), .load 1 false (t_ 62), (some (61, false)), false⟩,
 ⟨(some 64), .faddr 9 1 false (t_ 3), (some (61, false)), false⟩,
 ⟨(some 65), .load 1 false (t_ 64), (some (61, false)), false⟩,
 ⟨(some 66), .bi .len [23].toArray 3 [(t_ 65)], (some (61, false)), false⟩,
 ⟨(some 67), .bin .geq 3 (t_ 63) (t_ 66), (some (61, false)), false⟩,
 (q_ 68 (.pick (t_ 61) (.const (.bool true)) (t_ 67)))]
def ac52_G4 : List AOper :=
 [⟨(some 83), .faddr 1 1 false (t_ 2), (some (82, false)), false⟩,
 ⟨(some 84), .load 1 false (t_ 83), (some (82, false)), false⟩,
 ⟨(some 85), .faddr 0 9 true (t_ 3), (some (82, false)), false⟩,
 ⟨(some 86), .faddr 1 1 false (t_ 85), (some (82, false)), false⟩,
 ⟨(some 87), .load 1 false (t_ 86), (some (82, false)), false⟩,
 ⟨(some 88), .bi .len [22].toArray 3 [(t_ 87)], (some (82, false)), false⟩,
 ⟨(some 89), .bin .geq 3 (t_ 84) (t_ 88), (some (82, false)), false⟩,
 (q_ 90 (.pick (t_ 82) (.const (.bool true)) (t_ 89)))]
/-- patchbay/patchbayref13.leaf -/
def ac52 : AC :=
 .seq (.region false [(q_ 2 (.box false 55 (t_ 0))),
 (q_ 3 (.box false 48 (t_ 1))),
 (q_ 4 (.move (k_ 0))),
 (q_ 5 (.move (k_ 0)))])
 (.seq (.seq (.region false [(q_ 10 (.faddr 0 1 false (t_ 2))),
 (q_ 11 (.load 1 false (t_ 10)))])
 (.block 0 (.seq (.region false [(q_ 13 (.bin .eql 3 (t_ 11) (k_ 1))),
 (q_ 12 (.move (t_ 13)))])
 (.cond (t_ 12)
 (.seq (.region false [(q_ 15 (.faddr 2 1 false (t_ 2))),
 (q_ 16 (.load 1 false (t_ 15))),
 (q_ 17 (.call (.func 88) [(t_ 16)])),
 (q_ 14 (.move (t_ 17))),
 (q_ 18 (.extract (t_ 14) 0)),
 (q_ 19 (.extract (t_ 14) 1)),
 (q_ 6 (.move (t_ 18))),
 (q_ 7 (.move (t_ 19)))])
 (.seq (.seq (.region true ((q_ 20 (.move (t_ 7))) :: (q_ 21 (.bin .eql 57 (t_ 20) (k_ 0))) :: (q_ 22 (.move (t_ 21))) :: (ac52_G1 ++ [])))
 (.cond (t_ 34)
 (.seq (.region false [(q_ 4 (.move (k_ 0))),
 (q_ 5 (.move (k_ 9)))])
 (.ret))
 (.skip)))
 (.seq (.region false [(q_ 35 (.move (t_ 6))),
 (q_ 36 (.move (t_ 7))),
 (q_ 4 (.move (t_ 35))),
 (q_ 5 (.move (t_ 36)))])
 (.ret))))
 (.seq (.region false [(q_ 38 (.bin .eql 3 (t_ 11) (k_ 2))),
 (q_ 37 (.move (t_ 38)))])
 (.cond (t_ 37)
 (.seq (.region false [(q_ 40 (.faddr 0 9 true (t_ 3))),
 (q_ 41 (.load 9 true (t_ 40))),
 (q_ 42 (.faddr 1 1 false (t_ 2))),
 (q_ 43 (.load 1 false (t_ 42))),
 (q_ 44 (.faddr 2 1 false (t_ 2))),
 (q_ 45 (.load 1 false (t_ 44))),
 (q_ 46 (.build [(.int .i64 0), (.int .i64 0)] [(0, 1, (t_ 43)), (1, 1, (t_ 45))])),
 (q_ 47 (.call (.func 90) [(t_ 41), (t_ 46)])),
 (q_ 39 (.move (t_ 47))),
 (q_ 48 (.extract (t_ 39) 0)),
 (q_ 49 (.extract (t_ 39) 1)),
 (q_ 8 (.move (t_ 48))),
 (q_ 9 (.move (t_ 49)))])
 (.seq (.seq (.region false [(q_ 50 (.move (t_ 9))),
 (q_ 51 (.un .not (t_ 50)))])
 (.cond (t_ 51)
 (.seq (.region false [(q_ 4 (.move (k_ 0))),
 (q_ 5 (.move (k_ 8)))])
 (.ret))
 (.skip)))
 (.seq (.region false [(q_ 52 (.move (t_ 8))),
 (q_ 53 (.call (.func 88) [(t_ 52)])),
 (q_ 54 (.extract (t_ 53) 0)),
 (q_ 55 (.extract (t_ 53) 1)),
 (q_ 4 (.move (t_ 54))),
 (q_ 5 (.move (t_ 55)))])
 (.ret))))
 (.seq (.region false [(q_ 57 (.bin .eql 3 (t_ 11) (k_ 3))),
 (q_ 56 (.move (t_ 57)))])
 (.cond (t_ 56)
 (.seq (.seq (.region false ((q_ 58 (.faddr 1 1 false (t_ 2))) :: (q_ 59 (.load 1 false (t_ 58))) :: (q_ 60 (.bin .lss 3 (t_ 59) (k_ 0))) :: (q_ 61 (.move (t_ 60))) :: (ac52_G3 ++ [])))
 (.cond (t_ 68)
 (.seq (.region false [(q_ 4 (.move (k_ 0))),
 (q_ 5 (.move (k_ 8)))])
 (.ret))
 (.skip)))
 (.seq (.region false [(q_ 69 (.faddr 9 1 false (t_ 3))),
 (q_ 70 (.load 1 false (t_ 69))),
 (q_ 71 (.faddr 1 1 false (t_ 2))),
 (q_ 72 (.load 1 false (t_ 71))),
 (q_ 73 (.iaddr 2 (t_ 70) (t_ 72))),
 (q_ 74 (.faddr 1 1 false (t_ 73))),
 (q_ 75 (.load 1 false (t_ 74))),
 (q_ 76 (.call (.func 88) [(t_ 75)])),
 (q_ 77 (.extract (t_ 76) 0)),
 (q_ 78 (.extract (t_ 76) 1)),
 (q_ 4 (.move (t_ 77))),
 (q_ 5 (.move (t_ 78)))])
 (.ret)))
 (.skip)))))))))
 (.seq (.seq (.region false ((q_ 79 (.faddr 1 1 false (t_ 2))) :: (q_ 80 (.load 1 false (t_ 79))) :: (q_ 81 (.bin .lss 3 (t_ 80) (k_ 0))) :: (q_ 82 (.move (t_ 81))) :: (ac52_G4 ++ [])))
 (.cond (t_ 90)
 (.seq (.region false [(q_ 4 (.move (k_ 0))),
 (q_ 5 (.move (k_ 8)))])
 (.ret))
 (.skip)))
 (.seq (.region false [(q_ 4 (.move (k_ 1))),
 (q_ 5 (.move (k_ 0)))])
 (.ret))))
theorem text52 : FnText Tryz.prog 52 [] 91 2 ac52 [(4, none), (5, none)] :=
 ⟨Tryz.call52, follows, Tryz.f52, _, Tryz.func52, rfl, rfl, by decide, by kernel_rfl, by kernel_rfl⟩

def ac53_G1 : List AOper :=
 [⟨(some 20), .faddr 1 1 false (t_ 2), (some (19, false)), false⟩,
 ⟨(some 21), .load 1 false (t_ 20), (some (19, false)), false⟩,
 ⟨(some 22), .bin .gtr 3 (t_ 21) (k_ 31), (some (19, false)), false⟩,
 (q_ 23 (.pick (t_ 19) (.const (.bool true)) (t_ 22)))]
def ac53_G2 : List AOper :=
 [⟨(some 38), .faddr 2 1 false (t_ 2), (some (37, false)), false⟩,
 ⟨(some 39), .load 1 false (t_ 38), (some (37, false)), false⟩,
 ⟨(some 40), .bin .gtr 3 (t_ 39) (k_ 32), (some (37, false)), false⟩,
 (q_ 41 (.pick (t_ 37) (.const (.bool true)) (t_ 40)))]
def ac53_G3 : List AOper :=
 [⟨(some 43), .faddr 1 1 false (t_ 2), (some (42, false)), false⟩,
 ⟨(some 44), .load 1 false (t_ 43), (some (42, false)), false⟩,
 ⟨(some 45), .move (t_ 1), (some (42, false)), false⟩,
 ⟨(some 46), .iaddr 1 (t_ 45) (k_ 0), (some (42, false)), false⟩,
 ⟨(some 47), .load 1 false (t_ 46), (some (42, false)), false⟩,
 ⟨(some 48), .faddr 2 1 false (t_ 2), (some (42, false)), false⟩,
 ⟨(some 49), .load 1 false (t_ 48), (some (42, false)), false⟩,
 ⟨(some 50), .bin .sub 3 (t_ 47) (t_ 49), (some (42, false)), false⟩,
 ⟨(some 51), .bin .gtr 3 (t_ 44) (t_ 50), (some (42, false)), false⟩,
 (q_ 52 (.pick (t_ 42) (.const (.bool true)) (t_ 51)))]
def ac53_G4 : List AOper :=
 [⟨(some 74), .move (t_ 1), (some (73, false)), false⟩,
 ⟨(some 75), .iaddr 1 (t_ 74) (k_ 1), (some (73, false)), false⟩,
 ⟨(some 76), .load 1 false (t_ 75), (some (73, false)), false⟩,
 ⟨(some 77), .move (t_ 1), (some (73, false)), false⟩,
 ⟨(some 78), .iaddr 1 (t_ 77) (k_ 2), (some (73, false)), false⟩,
 ⟨(some 79), .load 1 false (t_ 78), (some (73, false)), false⟩,
 ⟨(some 80), .bin .neq 3 (t_ 76) (t_ 79), (some (73, false)), false⟩,
 (q_ 81 (.pick (t_ 73) (.const (.bool true)) (t_ 80)))]
def ac53_G5 : List AOper :=
 [⟨(some 98), .faddr 0 1 false (t_ 2), (some (97, false)), false⟩,
 ⟨(some 99), .load 1 false (t_ 98), (some (97, false)), false⟩,
 ⟨(some 100), .bin .eql 3 (t_ 99) (k_ 16), (some (97, false)), false⟩,
 (q_ 101 (.pick (t_ 97) (.const (.bool true)) (t_ 100)))]
/-- patchbay/patchbayref13.operator -/
def ac53 : AC :=
 .seq (.region false [(q_ 2 (.box false 55 (t_ 0))),
 (q_ 4 (.move (k_ 0))),
 (q_ 5 (.move (k_ 0)))])
 (.seq (.seq (.region false [(q_ 6 (.faddr 0 1 false (t_ 2))),
 (q_ 7 (.load 1 false (t_ 6)))])
 (.block 0 (.seq (.region false [(q_ 9 (.bin .eql 3 (t_ 7) (k_ 5))),
 (q_ 8 (.move (t_ 9)))])
 (.cond (t_ 8)
 (.seq (.region false [(q_ 10 (.move (t_ 1))),
 (q_ 11 (.iaddr 1 (t_ 10) (k_ 0))),
 (q_ 12 (.load 1 false (t_ 11))),
 (q_ 4 (.move (t_ 12))),
 (q_ 5 (.move (k_ 0)))])
 (.ret))
 (.seq (.seq (.region false [(q_ 14 (.bin .eql 3 (t_ 7) (k_ 6))),
 (q_ 13 (.move (t_ 14)))])
 (.cond (t_ 13)
 (.skip)
 (.region false [(q_ 15 (.bin .eql 3 (t_ 7) (k_ 7))),
 (q_ 13 (.move (t_ 15)))])))
 (.cond (t_ 13)
 (.seq (.seq (.region false ((q_ 16 (.faddr 1 1 false (t_ 2))) :: (q_ 17 (.load 1 false (t_ 16))) :: (q_ 18 (.bin .lss 3 (t_ 17) (k_ 0))) :: (q_ 19 (.move (t_ 18))) :: (ac53_G1 ++ [])))
 (.cond (t_ 23)
 (.seq (.region false [(q_ 4 (.move (k_ 0))),
 (q_ 5 (.move (k_ 9)))])
 (.ret))
 (.skip)))
 (.seq (.region false [(q_ 24 (.move (t_ 1))),
 (q_ 25 (.iaddr 1 (t_ 24) (k_ 0))),
 (q_ 26 (.load 1 false (t_ 25))),
 (q_ 4 (.move (t_ 26))),
 (q_ 5 (.move (k_ 0)))])
 (.ret)))
 (.seq (.region false [(q_ 28 (.bin .eql 3 (t_ 7) (k_ 8))),
 (q_ 27 (.move (t_ 28)))])
 (.cond (t_ 27)
 (.seq (.block 1 (.seq (.region false [(q_ 30 (.faddr 1 1 false (t_ 2))),
 (q_ 31 (.load 1 false (t_ 30))),
 (q_ 32 (.bin .lss 3 (t_ 31) (k_ 0))),
 (q_ 29 (.move (t_ 32)))])
 (.cond (t_ 29)
 (.seq (.region false [(q_ 4 (.move (k_ 0))),
 (q_ 5 (.move (k_ 9)))])
 (.ret))
 (.seq (.region true ((q_ 34 (.faddr 2 1 false (t_ 2))) :: (q_ 35 (.load 1 false (t_ 34))) :: (q_ 36 (.bin .lss 3 (t_ 35) (k_ 1))) :: (q_ 37 (.move (t_ 36))) :: (ac53_G2 ++ ((q_ 42 (.move (t_ 41))) :: (ac53_G3 ++ [(q_ 33 (.move (t_ 52)))])))))
 (.cond (t_ 33)
 (.seq (.region false [(q_ 4 (.move (k_ 0))),
 (q_ 5 (.move (k_ 10)))])
 (.ret))
 (.skip))))))
 (.seq (.region false [(q_ 53 (.faddr 2 1 false (t_ 2))),
 (q_ 54 (.load 1 false (t_ 53))),
 (q_ 4 (.move (t_ 54))),
 (q_ 5 (.move (k_ 0)))])
 (.ret)))
 (.seq (.region false [(q_ 56 (.bin .eql 3 (t_ 7) (k_ 14))),
 (q_ 55 (.move (t_ 56)))])
 (.cond (t_ 55)
 (.seq (.region true [(q_ 57 (.move (t_ 1))),
 (q_ 58 (.iaddr 1 (t_ 57) (k_ 0))),
 (q_ 59 (.load 1 false (t_ 58))),
 (q_ 60 (.move (t_ 1))),
 (q_ 61 (.iaddr 1 (t_ 60) (k_ 1))),
 (q_ 62 (.load 1 false (t_ 61))),
 (q_ 63 (.bin .add 3 (t_ 59) (t_ 62))),
 (q_ 64 (.call (.func 88) [(t_ 63)])),
 (q_ 65 (.extract (t_ 64) 0)),
 (q_ 66 (.extract (t_ 64) 1)),
 (q_ 4 (.move (t_ 65))),
 (q_ 5 (.move (t_ 66)))])
 (.ret))
 (.seq (.region false [(q_ 68 (.bin .eql 3 (t_ 7) (k_ 17))),
 (q_ 67 (.move (t_ 68)))])
 (.cond (t_ 67)
 (.seq (.seq (.region true ((q_ 69 (.move (t_ 1))) :: (q_ 70 (.iaddr 1 (t_ 69) (k_ 0))) :: (q_ 71 (.load 1 false (t_ 70))) :: (q_ 72 (.bin .neq 3 (t_ 71) (k_ 1))) :: (q_ 73 (.move (t_ 72))) :: (ac53_G4 ++ [])))
 (.cond (t_ 81)
 (.seq (.region false [(q_ 4 (.move (k_ 0))),
 (q_ 5 (.move (k_ 10)))])
 (.ret))
 (.skip)))
 (.seq (.region false [(q_ 82 (.move (t_ 1))),
 (q_ 83 (.iaddr 1 (t_ 82) (k_ 1))),
 (q_ 84 (.load 1 false (t_ 83))),
 (q_ 4 (.move (t_ 84))),
 (q_ 5 (.move (k_ 0)))])
 (.ret)))
 (.skip)))))))))))))
 (.seq (.block 2 (.seq (.region true [(q_ 86 (.move (t_ 1))),
 (q_ 87 (.iaddr 1 (t_ 86) (k_ 0))),
 (q_ 88 (.load 1 false (t_ 87))),
 (q_ 89 (.move (t_ 1))),
 (q_ 90 (.iaddr 1 (t_ 89) (k_ 1))),
 (q_ 91 (.load 1 false (t_ 90))),
 (q_ 92 (.bin .neq 3 (t_ 88) (t_ 91))),
 (q_ 85 (.move (t_ 92)))])
 (.cond (t_ 85)
 (.seq (.region false [(q_ 4 (.move (k_ 0))),
 (q_ 5 (.move (k_ 10)))])
 (.ret))
 (.seq (.region false ((q_ 94 (.faddr 0 1 false (t_ 2))) :: (q_ 95 (.load 1 false (t_ 94))) :: (q_ 96 (.bin .eql 3 (t_ 95) (k_ 15))) :: (q_ 97 (.move (t_ 96))) :: (ac53_G5 ++ [(q_ 93 (.move (t_ 101)))])))
 (.cond (t_ 93)
 (.seq (.region false [(q_ 4 (.move (k_ 1))),
 (q_ 5 (.move (k_ 0)))])
 (.ret))
 (.skip))))))
 (.seq (.region false [(q_ 102 (.move (t_ 1))),
 (q_ 103 (.iaddr 1 (t_ 102) (k_ 0))),
 (q_ 104 (.load 1 false (t_ 103))),
 (q_ 4 (.move (t_ 104))),
 (q_ 5 (.move (k_ 0)))])
 (.ret))))
theorem text53 : FnText Tryz.prog 53 [] 105 2 ac53 [(4, none), (5, none)] :=
 ⟨Tryz.call53, follows, Tryz.f53, _, Tryz.func53, rfl, rfl, by decide, by kernel_rfl, by kernel_rfl⟩

def ac30_L1 : AC :=
 .seq (.seq (.region false [(q_ 51 (.move (t_ 14))),
 (q_ 52 (.move (t_ 9))),
 (q_ 53 (.bin .lss 3 (t_ 51) (t_ 52)))])
 (.cond (t_ 53)
 (.skip)
 (.exit 0)))
 (.seq (.block 1 (.seq (.region false [(q_ 57 (.move (t_ 0))),
 (q_ 58 (.move (t_ 13))),
 (q_ 59 (.load 10 true (t_ 5))),
 (q_ 60 (.call (.func 30) [(t_ 57), (t_ 58), (t_ 59)])),
 (q_ 56 (.move (t_ 60))),
 (q_ 61 (.extract (t_ 56) 0)),
 (q_ 62 (.extract (t_ 56) 1)),
 (q_ 63 (.extract (t_ 56) 2)),
 (q_ 15 (.move (t_ 61))),
 (q_ 16 (.move (t_ 62))),
 (q_ 17 (.move (t_ 63)))])
 (.seq (.seq (.region false [(q_ 64 (.move (t_ 17))),
 (q_ 65 (.bin .neq 57 (t_ 64) (k_ 0)))])
 (.cond (t_ 65)
 (.seq (.region false [(q_ 66 (.move (t_ 16))),
 (q_ 67 (.move (t_ 17))),
 (q_ 6 (.move (k_ 0))),
 (q_ 7 (.move (t_ 66))),
 (q_ 8 (.move (t_ 67)))])
 (.ret))
 (.skip)))
 (.seq (.region false [(q_ 68 (.move (t_ 12))),
 (q_ 69 (.move (t_ 15))),
 (q_ 70 (.bslice false 3 1 false [(t_ 69)])),
 (q_ 71 (.append 29 3 1 8 (t_ 68) (t_ 70))),
 (q_ 12 (.move (t_ 71)))])
 (.region false [(q_ 72 (.move (t_ 16))),
 (q_ 13 (.move (t_ 72)))])))))
 (.region false [(q_ 54 (.move (t_ 14))),
 (q_ 55 (.bin .add 3 (t_ 54) (k_ 1))),
 (q_ 14 (.move (t_ 55)))]))
/-- patchbay/patchbayref13.check -/
def ac30 : AC :=
 .seq (.region false [(q_ 5 (.box false 48 (t_ 2))),
 (q_ 6 (.move (k_ 0))),
 (q_ 7 (.move (k_ 0))),
 (q_ 8 (.move (k_ 0)))])
 (.seq (.seq (.region false [(q_ 20 (.move (t_ 1))),
 (q_ 21 (.move (t_ 0))),
 (q_ 22 (.bi .len [32].toArray 3 [(t_ 21)])),
 (q_ 23 (.bin .geq 3 (t_ 20) (t_ 22)))])
 (.cond (t_ 23)
 (.seq (.region false [(q_ 24 (.move (t_ 1))),
 (q_ 6 (.move (k_ 0))),
 (q_ 7 (.move (t_ 24))),
 (q_ 8 (.move (k_ 3)))])
 (.ret))
 (.skip)))
 (.seq (.region false [(q_ 25 (.move (t_ 0))),
 (q_ 26 (.move (t_ 1))),
 (q_ 27 (.iaddr 3 (t_ 25) (t_ 26))),
 (q_ 28 (.faddr 0 1 false (t_ 27))),
 (q_ 29 (.load 1 false (t_ 28))),
 (q_ 30 (.call (.func 34) [(t_ 29)])),
 (q_ 9 (.move (t_ 30)))])
 (.seq (.seq (.region false [(q_ 31 (.move (t_ 9))),
 (q_ 32 (.bin .lss 3 (t_ 31) (k_ 0)))])
 (.cond (t_ 32)
 (.seq (.region false [(q_ 33 (.move (t_ 1))),
 (q_ 6 (.move (k_ 0))),
 (q_ 7 (.move (t_ 33))),
 (q_ 8 (.move (k_ 11)))])
 (.ret))
 (.skip)))
 (.seq (.seq (.region false [(q_ 34 (.move (t_ 9))),
 (q_ 35 (.bin .eql 3 (t_ 34) (k_ 0)))])
 (.cond (t_ 35)
 (.seq (.region true [(q_ 37 (.move (t_ 0))),
 (q_ 38 (.move (t_ 1))),
 (q_ 39 (.iaddr 3 (t_ 37) (t_ 38))),
 (q_ 40 (.load 3 true (t_ 39))),
 (q_ 41 (.load 10 true (t_ 5))),
 (q_ 42 (.call (.func 52) [(t_ 40), (t_ 41)])),
 (q_ 36 (.move (t_ 42))),
 (q_ 43 (.extract (t_ 36) 0)),
 (q_ 44 (.extract (t_ 36) 1)),
 (q_ 10 (.move (t_ 43))),
 (q_ 11 (.move (t_ 44)))])
 (.seq (.region false [(q_ 45 (.move (t_ 10))),
 (q_ 46 (.move (t_ 1))),
 (q_ 47 (.bin .add 3 (t_ 46) (k_ 1))),
 (q_ 48 (.move (t_ 11))),
 (q_ 6 (.move (t_ 45))),
 (q_ 7 (.move (t_ 47))),
 (q_ 8 (.move (t_ 48)))])
 (.ret)))
 (.skip)))
 (.seq (.region false [(q_ 12 (.move (.const (.slice none 0 0))))])
 (.seq (.region false [(q_ 49 (.move (t_ 1))),
 (q_ 50 (.bin .add 3 (t_ 49) (k_ 1))),
 (q_ 13 (.move (t_ 50)))])
 (.seq (.seq (.region false [(q_ 14 (.move (k_ 0)))])
 (.block 0 (.loop ac30_L1)))
 (.seq (.region false [(q_ 74 (.move (t_ 0))),
 (q_ 75 (.move (t_ 1))),
 (q_ 76 (.iaddr 3 (t_ 74) (t_ 75))),
 (q_ 77 (.load 3 true (t_ 76))),
 (q_ 78 (.move (t_ 12))),
 (q_ 79 (.call (.func 53) [(t_ 77), (t_ 78)])),
 (q_ 73 (.move (t_ 79))),
 (q_ 80 (.extract (t_ 73) 0)),
 (q_ 81 (.extract (t_ 73) 1)),
 (q_ 18 (.move (t_ 80))),
 (q_ 19 (.move (t_ 81)))])
 (.seq (.region false [(q_ 82 (.move (t_ 18))),
 (q_ 83 (.move (t_ 13))),
 (q_ 84 (.move (t_ 19))),
 (q_ 6 (.move (t_ 82))),
 (q_ 7 (.move (t_ 83))),
 (q_ 8 (.move (t_ 84)))])
 (.ret))))))))))
theorem text30 : FnText Tryz.prog 30 [] 85 3 ac30 [(6, none), (7, none), (8, none)] :=
 ⟨Tryz.call30, follows, Tryz.f30, _, Tryz.func30, rfl, rfl, by decide, by kernel_rfl, by kernel_rfl⟩


/-- patchbay/patchbayref13.Check -/
def ac16 : AC :=
 .seq (.region false [(q_ 3 (.box false 48 (t_ 1))),
 (q_ 4 (.move (k_ 0))),
 (q_ 5 (.move (k_ 0)))])
 (.seq (.seq (.region false [(q_ 9 (.move (t_ 0))),
 (q_ 10 (.bi .len [32].toArray 3 [(t_ 9)])),
 (q_ 11 (.bin .gtr 3 (t_ 10) (k_ 24)))])
 (.cond (t_ 11)
 (.seq (.region false [(q_ 4 (.move (k_ 0))),
 (q_ 5 (.move (k_ 12)))])
 (.ret))
 (.skip)))
 (.seq (.region false [(q_ 13 (.move (t_ 0))),
 (q_ 14 (.load 10 true (t_ 3))),
 (q_ 15 (.call (.func 30) [(t_ 13), (k_ 0), (t_ 14)])),
 (q_ 12 (.move (t_ 15))),
 (q_ 16 (.extract (t_ 12) 0)),
 (q_ 17 (.extract (t_ 12) 1)),
 (q_ 18 (.extract (t_ 12) 2)),
 (q_ 6 (.move (t_ 16))),
 (q_ 7 (.move (t_ 17))),
 (q_ 8 (.move (t_ 18)))])
 (.seq (.block 0 (.seq (.region false [(q_ 20 (.move (t_ 8))),
 (q_ 21 (.bin .neq 57 (t_ 20) (k_ 0))),
 (q_ 19 (.move (t_ 21)))])
 (.cond (t_ 19)
 (.seq (.region false [(q_ 22 (.move (t_ 8))),
 (q_ 4 (.move (k_ 0))),
 (q_ 5 (.move (t_ 22)))])
 (.ret))
 (.seq (.region false [(q_ 24 (.move (t_ 7))),
 (q_ 25 (.move (t_ 0))),
 (q_ 26 (.bi .len [32].toArray 3 [(t_ 25)])),
 (q_ 27 (.bin .lss 3 (t_ 24) (t_ 26))),
 (q_ 23 (.move (t_ 27)))])
 (.cond (t_ 23)
 (.seq (.region false [(q_ 4 (.move (k_ 0))),
 (q_ 5 (.move (k_ 4)))])
 (.ret))
 (.skip))))))
 (.seq (.region false [(q_ 28 (.move (t_ 6))),
 (q_ 4 (.move (t_ 28))),
 (q_ 5 (.move (k_ 0)))])
 (.ret)))))
theorem text16 : FnText Tryz.prog 16 [] 29 2 ac16 [(4, none), (5, none)] :=
 ⟨Tryz.call16, follows, Tryz.f16, _, Tryz.func16, rfl, rfl, by decide, by kernel_rfl, by kernel_rfl⟩

def ac56_G1 : List AOper :=
 [⟨(some 12), .faddr 1 1 false (t_ 3), (some (11, true)), false⟩,
 ⟨(some 13), .load 1 false (t_ 12), (some (11, true)), false⟩,
 ⟨(some 14), .faddr 2 1 false (t_ 2), (some (11, true)), false⟩,
 ⟨(some 15), .load 1 false (t_ 14), (some (11, true)), false⟩,
 ⟨(some 16), .bi .len [35].toArray 3 [(t_ 15)], (some (11, true)), false⟩,
 ⟨(some 17), .bin .lss 3 (t_ 13) (t_ 16), (some (11, true)), false⟩,
 (q_ 18 (.pick (t_ 11) (t_ 17) (.const (.bool false))))]
def ac56_G2 : List AOper :=
 [⟨(some 23), .faddr 0 1 false (t_ 3), (some (22, true)), false⟩,
 ⟨(some 24), .load 1 false (t_ 23), (some (22, true)), false⟩,
 ⟨(some 25), .faddr 1 1 false (t_ 2), (some (22, true)), false⟩,
 ⟨(some 26), .load 1 false (t_ 25), (some (22, true)), false⟩,
 ⟨(some 27), .bi .len [34].toArray 3 [(t_ 26)], (some (22, true)), false⟩,
 ⟨(some 28), .bin .lss 3 (t_ 24) (t_ 27), (some (22, true)), false⟩,
 (q_ 29 (.pick (t_ 22) (t_ 28) (.const (.bool false))))]
def ac56_G3 : List AOper :=
 [⟨(some 31), .faddr 1 1 false (t_ 3), (some (30, true)), false⟩,
 ⟨(some 32), .load 1 false (t_ 31), (some (30, true)), false⟩,
 ⟨(some 33), .bin .geq 3 (t_ 32) (k_ 0), (some (30, true)), false⟩,
 (q_ 34 (.pick (t_ 30) (t_ 33) (.const (.bool false))))]
def ac56_G4 : List AOper :=
 [⟨(some 36), .faddr 1 1 false (t_ 3), (some (35, true)), false⟩,
 ⟨(some 37), .load 1 false (t_ 36), (some (35, true)), false⟩,
 ⟨(some 38), .faddr 1 1 false (t_ 2), (some (35, true)), false⟩,
 ⟨(some 39), .load 1 false (t_ 38), (some (35, true)), false⟩,
 ⟨(some 40), .faddr 0 1 false (t_ 3), (some (35, true)), false⟩,
 ⟨(some 41), .load 1 false (t_ 40), (some (35, true)), false⟩,
 ⟨(some 42), .iaddr 1 (t_ 39) (t_ 41), (some (35, true)), false⟩,
 ⟨(some 43), .load 1 false (t_ 42), (some (35, true)), false⟩,
 ⟨(some 44), .bi .len [35].toArray 3 [(t_ 43)], (some (35, true)), false⟩,
 ⟨(some 45), .bin .lss 3 (t_ 37) (t_ 44), (some (35, true)), false⟩,
 (q_ 46 (.pick (t_ 35) (t_ 45) (.const (.bool false))))]
/-- patchbay/patchbayref12.element -/
def ac56 : AC :=
 .seq (.region false [(q_ 2 (.box false 38 (t_ 0))),
 (q_ 3 (.box false 65 (t_ 1))),
 (q_ 4 (.move (.const (.bool false))))])
 (.seq (.seq (.region false [(q_ 5 (.faddr 0 1 false (t_ 3))),
 (q_ 6 (.load 1 false (t_ 5))),
 (q_ 7 (.bin .eql 3 (t_ 6) (.const (.int .i64 (-1)))))])
 (.cond (t_ 7)
 (.seq (.region false ((q_ 8 (.faddr 1 1 false (t_ 3))) :: (q_ 9 (.load 1 false (t_ 8))) :: (q_ 10 (.bin .geq 3 (t_ 9) (k_ 0))) :: (q_ 11 (.move (t_ 10))) :: (ac56_G1 ++ [(q_ 4 (.move (t_ 18)))])))
 (.ret))
 (.skip)))
 (.seq (.region true ((q_ 19 (.faddr 0 1 false (t_ 3))) :: (q_ 20 (.load 1 false (t_ 19))) :: (q_ 21 (.bin .geq 3 (t_ 20) (k_ 0))) :: (q_ 22 (.move (t_ 21))) :: (ac56_G2 ++ ((q_ 30 (.move (t_ 29))) :: (ac56_G3 ++ ((q_ 35 (.move (t_ 34))) :: (ac56_G4 ++ [(q_ 4 (.move (t_ 46)))])))))))
 (.ret)))
theorem text56 : FnText Tryz.prog 56 [] 47 2 ac56 [(4, none)] :=
 ⟨Tryz.call56, follows, Tryz.f56, _, Tryz.func56, rfl, rfl, by decide, by kernel_rfl, by kernel_rfl⟩

def ac57_G1 : List AOper :=
 [⟨(some 8), .move (t_ 1), (some (7, true)), false⟩,
 ⟨(some 9), .faddr 0 1 false (t_ 2), (some (7, true)), false⟩,
 ⟨(some 10), .load 1 false (t_ 9), (some (7, true)), false⟩,
 ⟨(some 11), .bi .len [33].toArray 3 [(t_ 10)], (some (7, true)), false⟩,
 ⟨(some 12), .bin .lss 3 (t_ 8) (t_ 11), (some (7, true)), false⟩,
 (q_ 13 (.pick (t_ 7) (t_ 12) (.const (.bool false))))]
def ac57_G2 : List AOper :=
 [⟨(some 15), .faddr 0 1 false (t_ 2), (some (14, true)), false⟩,
 ⟨(some 16), .load 1 false (t_ 15), (some (14, true)), false⟩,
 ⟨(some 17), .move (t_ 1), (some (14, true)), false⟩,
 ⟨(some 18), .iaddr 1 (t_ 16) (t_ 17), (some (14, true)), false⟩,
 ⟨(some 19), .load 1 false (t_ 18), (some (14, true)), false⟩,
 (q_ 20 (.pick (t_ 14) (t_ 19) (.const (.bool false))))]
/-- patchbay/patchbayref12.Has -/
def ac57 : AC :=
 .seq (.region false [(q_ 2 (.box false 38 (t_ 0))),
 (q_ 4 (.move (.const (.bool false))))])
 (.seq (.region false ((q_ 5 (.move (t_ 1))) :: (q_ 6 (.bin .geq 3 (t_ 5) (k_ 0))) :: (q_ 7 (.move (t_ 6))) :: (ac57_G1 ++ ((q_ 14 (.move (t_ 13))) :: (ac57_G2 ++ [(q_ 4 (.move (t_ 20)))])))))
 (.ret))
theorem text57 : FnText Tryz.prog 57 [] 21 2 ac57 [(4, none)] :=
 ⟨Tryz.call57, follows, Tryz.f57, _, Tryz.func57, rfl, rfl, by decide, by kernel_rfl, by kernel_rfl⟩


/-- patchbay/patchbayref12.Get -/
def ac32 : AC :=
 .seq (.region false [(q_ 2 (.box false 38 (t_ 0))),
 (q_ 3 (.box false 65 (t_ 1))),
 (q_ 4 (.move (.const (.int .u32 0))))])
 (.seq (.seq (.region false [(q_ 5 (.load 4 true (t_ 2))),
 (q_ 6 (.load 2 true (t_ 3))),
 (q_ 7 (.call (.func 56) [(t_ 5), (t_ 6)])),
 (q_ 8 (.un .not (t_ 7)))])
 (.cond (t_ 8)
 (.seq (.region false [(q_ 4 (.move (.const (.int .u32 0))))])
 (.ret))
 (.skip)))
 (.seq (.seq (.region false [(q_ 9 (.faddr 0 1 false (t_ 3))),
 (q_ 10 (.load 1 false (t_ 9))),
 (q_ 11 (.bin .eql 3 (t_ 10) (.const (.int .i64 (-1)))))])
 (.cond (t_ 11)
 (.seq (.region false [(q_ 12 (.faddr 2 1 false (t_ 2))),
 (q_ 13 (.load 1 false (t_ 12))),
 (q_ 14 (.faddr 1 1 false (t_ 3))),
 (q_ 15 (.load 1 false (t_ 14))),
 (q_ 16 (.iaddr 1 (t_ 13) (t_ 15))),
 (q_ 17 (.load 1 false (t_ 16))),
 (q_ 4 (.move (t_ 17)))])
 (.ret))
 (.skip)))
 (.seq (.seq (.region false [(q_ 18 (.load 4 true (t_ 2))),
 (q_ 19 (.faddr 0 1 false (t_ 3))),
 (q_ 20 (.load 1 false (t_ 19))),
 (q_ 21 (.call (.func 57) [(t_ 18), (t_ 20)])),
 (q_ 22 (.un .not (t_ 21)))])
 (.cond (t_ 22)
 (.seq (.region false [(q_ 4 (.move (.const (.int .u32 0))))])
 (.ret))
 (.skip)))
 (.seq (.region true [(q_ 23 (.faddr 1 1 false (t_ 2))),
 (q_ 24 (.load 1 false (t_ 23))),
 (q_ 25 (.faddr 0 1 false (t_ 3))),
 (q_ 26 (.load 1 false (t_ 25))),
 (q_ 27 (.iaddr 1 (t_ 24) (t_ 26))),
 (q_ 28 (.load 1 false (t_ 27))),
 (q_ 29 (.faddr 1 1 false (t_ 3))),
 (q_ 30 (.load 1 false (t_ 29))),
 (q_ 31 (.iaddr 1 (t_ 28) (t_ 30))),
 (q_ 32 (.load 1 false (t_ 31))),
 (q_ 4 (.move (t_ 32)))])
 (.ret)))))
theorem text32 : FnText Tryz.prog 32 [] 33 2 ac32 [(4, none)] :=
 ⟨Tryz.call32, follows, Tryz.f32, _, Tryz.func32, rfl, rfl, by decide, by kernel_rfl, by kernel_rfl⟩


/-- patchbay/patchbayref01.Reduce -/
def ac31 : AC :=
 .seq (.region false [(q_ 4 (.move (.const (.int .u32 0))))])
 (.seq (.seq (.region false [(q_ 5 (.move (t_ 1))),
 (q_ 6 (.call (.func 54) [(t_ 5)])),
 (q_ 7 (.un .not (t_ 6)))])
 (.cond (t_ 7)
 (.seq (.region false [(q_ 4 (.move (.const (.int .u32 0))))])
 (.ret))
 (.skip)))
 (.seq (.region false [(q_ 8 (.move (t_ 0))),
 (q_ 9 (.move (t_ 1))),
 (q_ 10 (.call (.func 55) [(t_ 9)])),
 (q_ 11 (.bin .rem 93 (t_ 8) (t_ 10))),
 (q_ 12 (.conv 93 42 (t_ 11))),
 (q_ 4 (.move (t_ 12)))])
 (.ret)))
theorem text31 : FnText Tryz.prog 31 [] 13 2 ac31 [(4, none)] :=
 ⟨Tryz.call31, follows, Tryz.f31, _, Tryz.func31, rfl, rfl, by decide, by kernel_rfl, by kernel_rfl⟩


/-- patchbay/patchbayref13.bit -/
def ac33 : AC :=
 .seq (.region false [(q_ 2 (.move (.const (.int .u32 0))))])
 (.seq (.seq (.region false [(q_ 3 (.move (t_ 0)))])
 (.cond (t_ 3)
 (.seq (.region false [(q_ 2 (.move (.const (.int .u32 1))))])
 (.ret))
 (.skip)))
 (.seq (.region false [(q_ 2 (.move (.const (.int .u32 0))))])
 (.ret)))
theorem text33 : FnText Tryz.prog 33 [] 4 1 ac33 [(2, none)] :=
 ⟨Tryz.call33, follows, Tryz.f33, _, Tryz.func33, rfl, rfl, by decide, by kernel_rfl, by kernel_rfl⟩


/-- patchbay/patchbayref01.Not -/
def ac58 : AC :=
 .seq (.region false [(q_ 4 (.move (.const (.int .u32 0))))])
 (.seq (.region false [(q_ 5 (.move (t_ 1))),
 (q_ 6 (.call (.func 89) [(t_ 5)])),
 (q_ 7 (.move (t_ 0))),
 (q_ 8 (.conv 42 93 (t_ 7))),
 (q_ 9 (.move (t_ 1))),
 (q_ 10 (.call (.func 31) [(t_ 8), (t_ 9)])),
 (q_ 11 (.bin .sub 42 (t_ 6) (t_ 10))),
 (q_ 4 (.move (t_ 11)))])
 (.ret))
theorem text58 : FnText Tryz.prog 58 [] 12 2 ac58 [(4, none)] :=
 ⟨Tryz.call58, follows, Tryz.f58, _, Tryz.func58, rfl, rfl, by decide, by kernel_rfl, by kernel_rfl⟩

def ac59_G1 : List AOper :=
 [⟨(some 17), .move (t_ 8), (some (16, true)), false⟩,
 ⟨(some 18), .bin .lss 3 (t_ 17) (k_ 32), (some (16, true)), false⟩,
 (q_ 19 (.pick (t_ 16) (t_ 18) (.const (.bool false))))]
def ac59_L1 : AC :=
 .seq (.seq (.region false ((q_ 13 (.move (t_ 8))) :: (q_ 14 (.move (t_ 1))) :: (q_ 15 (.bin .lss 3 (t_ 13) (t_ 14))) :: (q_ 16 (.move (t_ 15))) :: (ac59_G1 ++ [])))
 (.cond (t_ 19)
 (.skip)
 (.exit 0)))
 (.seq (.block 1 (.region false [(q_ 22 (.move (t_ 7))),
 (q_ 23 (.conv 42 93 (t_ 22))),
 (q_ 24 (.bin .mul 93 (.const (.int .u64 2)) (t_ 23))),
 (q_ 25 (.move (t_ 2))),
 (q_ 26 (.call (.func 31) [(t_ 24), (t_ 25)])),
 (q_ 7 (.move (t_ 26)))]))
 (.region false [(q_ 20 (.move (t_ 8))),
 (q_ 21 (.bin .add 3 (t_ 20) (k_ 1))),
 (q_ 8 (.move (t_ 21)))]))
/-- patchbay/patchbayref01.Shl -/
def ac59 : AC :=
 .seq (.region false [(q_ 6 (.move (.const (.int .u32 0))))])
 (.seq (.region false [(q_ 9 (.move (t_ 0))),
 (q_ 10 (.conv 42 93 (t_ 9))),
 (q_ 11 (.move (t_ 2))),
 (q_ 12 (.call (.func 31) [(t_ 10), (t_ 11)])),
 (q_ 7 (.move (t_ 12)))])
 (.seq (.seq (.region false [(q_ 8 (.move (k_ 0)))])
 (.block 0 (.loop ac59_L1)))
 (.seq (.region false [(q_ 27 (.move (t_ 7))),
 (q_ 6 (.move (t_ 27)))])
 (.ret))))
theorem text59 : FnText Tryz.prog 59 [] 28 3 ac59 [(6, none)] :=
 ⟨Tryz.call59, follows, Tryz.f59, _, Tryz.func59, rfl, rfl, by decide, by kernel_rfl, by kernel_rfl⟩

def ac60_G1 : List AOper :=
 [⟨(some 17), .move (t_ 8), (some (16, true)), false⟩,
 ⟨(some 18), .bin .lss 3 (t_ 17) (k_ 32), (some (16, true)), false⟩,
 (q_ 19 (.pick (t_ 16) (t_ 18) (.const (.bool false))))]
def ac60_L1 : AC :=
 .seq (.seq (.region false ((q_ 13 (.move (t_ 8))) :: (q_ 14 (.move (t_ 1))) :: (q_ 15 (.bin .lss 3 (t_ 13) (t_ 14))) :: (q_ 16 (.move (t_ 15))) :: (ac60_G1 ++ [])))
 (.cond (t_ 19)
 (.skip)
 (.exit 0)))
 (.seq (.block 1 (.region false [(q_ 22 (.move (t_ 7))),
 (q_ 23 (.bin .quo 42 (t_ 22) (.const (.int .u32 2)))),
 (q_ 7 (.move (t_ 23)))]))
 (.region false [(q_ 20 (.move (t_ 8))),
 (q_ 21 (.bin .add 3 (t_ 20) (k_ 1))),
 (q_ 8 (.move (t_ 21)))]))
/-- patchbay/patchbayref01.Shr -/
def ac60 : AC :=
 .seq (.region false [(q_ 6 (.move (.const (.int .u32 0))))])
 (.seq (.region false [(q_ 9 (.move (t_ 0))),
 (q_ 10 (.conv 42 93 (t_ 9))),
 (q_ 11 (.move (t_ 2))),
 (q_ 12 (.call (.func 31) [(t_ 10), (t_ 11)])),
 (q_ 7 (.move (t_ 12)))])
 (.seq (.seq (.region false [(q_ 8 (.move (k_ 0)))])
 (.block 0 (.loop ac60_L1)))
 (.seq (.region false [(q_ 24 (.move (t_ 7))),
 (q_ 6 (.move (t_ 24)))])
 (.ret))))
theorem text60 : FnText Tryz.prog 60 [] 25 3 ac60 [(6, none)] :=
 ⟨Tryz.call60, follows, Tryz.f60, _, Tryz.func60, rfl, rfl, by decide, by kernel_rfl, by kernel_rfl⟩

def ac61_G1 : List AOper :=
 [⟨(some 11), .move (t_ 1), (some (10, false)), false⟩,
 ⟨(some 12), .bin .lss 3 (t_ 11) (k_ 0), (some (10, false)), false⟩,
 (q_ 13 (.pick (t_ 10) (.const (.bool true)) (t_ 12)))]
def ac61_G2 : List AOper :=
 [⟨(some 15), .move (t_ 1), (some (14, false)), false⟩,
 ⟨(some 16), .move (t_ 2), (some (14, false)), false⟩,
 ⟨(some 17), .bin .sub 3 (k_ 32) (t_ 16), (some (14, false)), false⟩,
 ⟨(some 18), .bin .gtr 3 (t_ 15) (t_ 17), (some (14, false)), false⟩,
 (q_ 19 (.pick (t_ 14) (.const (.bool true)) (t_ 18)))]
/-- patchbay/patchbayref01.Slice -/
def ac61 : AC :=
 .seq (.region false [(q_ 6 (.move (.const (.int .u32 0))))])
 (.seq (.seq (.region false ((q_ 7 (.move (t_ 2))) :: (q_ 8 (.call (.func 54) [(t_ 7)])) :: (q_ 9 (.un .not (t_ 8))) :: (q_ 10 (.move (t_ 9))) :: (ac61_G1 ++ ((q_ 14 (.move (t_ 13))) :: (ac61_G2 ++ [])))))
 (.cond (t_ 19)
 (.seq (.region false [(q_ 6 (.move (.const (.int .u32 0))))])
 (.ret))
 (.skip)))
 (.seq (.region false [(q_ 20 (.move (t_ 0))),
 (q_ 21 (.conv 42 93 (t_ 20))),
 (q_ 22 (.move (t_ 1))),
 (q_ 23 (.call (.func 55) [(t_ 22)])),
 (q_ 24 (.bin .quo 93 (t_ 21) (t_ 23))),
 (q_ 25 (.move (t_ 2))),
 (q_ 26 (.call (.func 31) [(t_ 24), (t_ 25)])),
 (q_ 6 (.move (t_ 26)))])
 (.ret)))
theorem text61 : FnText Tryz.prog 61 [] 27 3 ac61 [(6, none)] :=
 ⟨Tryz.call61, follows, Tryz.f61, _, Tryz.func61, rfl, rfl, by decide, by kernel_rfl, by kernel_rfl⟩


/-- patchbay/patchbayref01.Add -/
def ac62 : AC :=
 .seq (.region false [(q_ 6 (.move (.const (.int .u32 0))))])
 (.seq (.region false [(q_ 7 (.move (t_ 0))),
 (q_ 8 (.conv 42 93 (t_ 7))),
 (q_ 9 (.move (t_ 1))),
 (q_ 10 (.conv 42 93 (t_ 9))),
 (q_ 11 (.bin .add 93 (t_ 8) (t_ 10))),
 (q_ 12 (.move (t_ 2))),
 (q_ 13 (.call (.func 31) [(t_ 11), (t_ 12)])),
 (q_ 6 (.move (t_ 13)))])
 (.ret))
theorem text62 : FnText Tryz.prog 62 [] 14 3 ac62 [(6, none)] :=
 ⟨Tryz.call62, follows, Tryz.f62, _, Tryz.func62, rfl, rfl, by decide, by kernel_rfl, by kernel_rfl⟩


/-- patchbay/patchbayref01.Sub -/
def ac63 : AC :=
 .seq (.region false [(q_ 6 (.move (.const (.int .u32 0))))])
 (.seq (.seq (.region false [(q_ 7 (.move (t_ 2))),
 (q_ 8 (.call (.func 54) [(t_ 7)])),
 (q_ 9 (.un .not (t_ 8)))])
 (.cond (t_ 9)
 (.seq (.region false [(q_ 6 (.move (.const (.int .u32 0))))])
 (.ret))
 (.skip)))
 (.seq (.region false [(q_ 10 (.move (t_ 2))),
 (q_ 11 (.call (.func 55) [(t_ 10)])),
 (q_ 12 (.move (t_ 0))),
 (q_ 13 (.conv 42 93 (t_ 12))),
 (q_ 14 (.move (t_ 2))),
 (q_ 15 (.call (.func 31) [(t_ 13), (t_ 14)])),
 (q_ 16 (.conv 42 93 (t_ 15))),
 (q_ 17 (.bin .add 93 (t_ 11) (t_ 16))),
 (q_ 18 (.move (t_ 1))),
 (q_ 19 (.conv 42 93 (t_ 18))),
 (q_ 20 (.move (t_ 2))),
 (q_ 21 (.call (.func 31) [(t_ 19), (t_ 20)])),
 (q_ 22 (.conv 42 93 (t_ 21))),
 (q_ 23 (.bin .sub 93 (t_ 17) (t_ 22))),
 (q_ 24 (.move (t_ 2))),
 (q_ 25 (.call (.func 31) [(t_ 23), (t_ 24)])),
 (q_ 6 (.move (t_ 25)))])
 (.ret)))
theorem text63 : FnText Tryz.prog 63 [] 26 3 ac63 [(6, none)] :=
 ⟨Tryz.call63, follows, Tryz.f63, _, Tryz.func63, rfl, rfl, by decide, by kernel_rfl, by kernel_rfl⟩

def ac64_G1 : List AOper :=
 [⟨(some 14), .move (t_ 3), (some (13, false)), false⟩,
 ⟨(some 15), .call (.func 54) [(t_ 14)], (some (13, false)), false⟩,
 ⟨(some 16), .un .not (t_ 15), (some (13, false)), false⟩,
 (q_ 17 (.pick (t_ 13) (.const (.bool true)) (t_ 16)))]
def ac64_G2 : List AOper :=
 [⟨(some 19), .move (t_ 1), (some (18, false)), false⟩,
 ⟨(some 20), .move (t_ 3), (some (18, false)), false⟩,
 ⟨(some 21), .bin .add 3 (t_ 19) (t_ 20), (some (18, false)), false⟩,
 ⟨(some 22), .bin .gtr 3 (t_ 21) (k_ 32), (some (18, false)), false⟩,
 (q_ 23 (.pick (t_ 18) (.const (.bool true)) (t_ 22)))]
/-- patchbay/patchbayref01.Concat -/
def ac64 : AC :=
 .seq (.region false [(q_ 8 (.move (.const (.int .u32 0)))),
 (q_ 9 (.move (.const (.bool false))))])
 (.seq (.seq (.region false ((q_ 10 (.move (t_ 1))) :: (q_ 11 (.call (.func 54) [(t_ 10)])) :: (q_ 12 (.un .not (t_ 11))) :: (q_ 13 (.move (t_ 12))) :: (ac64_G1 ++ ((q_ 18 (.move (t_ 17))) :: (ac64_G2 ++ [])))))
 (.cond (t_ 23)
 (.seq (.region false [(q_ 8 (.move (.const (.int .u32 0)))),
 (q_ 9 (.move (.const (.bool false))))])
 (.ret))
 (.skip)))
 (.seq (.region false [(q_ 24 (.move (t_ 0))),
 (q_ 25 (.conv 42 93 (t_ 24))),
 (q_ 26 (.move (t_ 1))),
 (q_ 27 (.call (.func 31) [(t_ 25), (t_ 26)])),
 (q_ 28 (.conv 42 93 (t_ 27))),
 (q_ 29 (.move (t_ 3))),
 (q_ 30 (.call (.func 55) [(t_ 29)])),
 (q_ 31 (.bin .mul 93 (t_ 28) (t_ 30))),
 (q_ 32 (.conv 93 42 (t_ 31))),
 (q_ 33 (.move (t_ 2))),
 (q_ 34 (.conv 42 93 (t_ 33))),
 (q_ 35 (.move (t_ 3))),
 (q_ 36 (.call (.func 31) [(t_ 34), (t_ 35)])),
 (q_ 37 (.bin .add 42 (t_ 32) (t_ 36))),
 (q_ 8 (.move (t_ 37))),
 (q_ 9 (.move (.const (.bool true))))])
 (.ret)))
theorem text64 : FnText Tryz.prog 64 [] 38 4 ac64 [(8, none), (9, none)] :=
 ⟨Tryz.call64, follows, Tryz.f64, _, Tryz.func64, rfl, rfl, by decide, by kernel_rfl, by kernel_rfl⟩


/-- patchbay/patchbayref13.apply -/
def ac35 : AC :=
 .seq (.region false [(q_ 2 (.box false 55 (t_ 0))),
 (q_ 4 (.move (.const (.int .u32 0))))])
 (.seq (.region false [(q_ 8 (.move (t_ 1))),
 (q_ 9 (.iaddr 3 (t_ 8) (k_ 0))),
 (q_ 10 (.faddr 1 1 false (t_ 9))),
 (q_ 11 (.load 1 false (t_ 10))),
 (q_ 5 (.move (t_ 11)))])
 (.seq (.seq (.region false [(q_ 12 (.faddr 0 1 false (t_ 2))),
 (q_ 13 (.load 1 false (t_ 12)))])
 (.block 0 (.seq (.region false [(q_ 15 (.bin .eql 3 (t_ 13) (k_ 5))),
 (q_ 14 (.move (t_ 15)))])
 (.cond (t_ 14)
 (.seq (.region false [(q_ 16 (.move (t_ 1))),
 (q_ 17 (.iaddr 3 (t_ 16) (k_ 0))),
 (q_ 18 (.faddr 0 1 false (t_ 17))),
 (q_ 19 (.load 1 false (t_ 18))),
 (q_ 20 (.move (t_ 5))),
 (q_ 21 (.call (.func 58) [(t_ 19), (t_ 20)])),
 (q_ 4 (.move (t_ 21)))])
 (.ret))
 (.seq (.region false [(q_ 23 (.bin .eql 3 (t_ 13) (k_ 6))),
 (q_ 22 (.move (t_ 23)))])
 (.cond (t_ 22)
 (.seq (.region true [(q_ 24 (.move (t_ 1))),
 (q_ 25 (.iaddr 3 (t_ 24) (k_ 0))),
 (q_ 26 (.faddr 0 1 false (t_ 25))),
 (q_ 27 (.load 1 false (t_ 26))),
 (q_ 28 (.faddr 1 1 false (t_ 2))),
 (q_ 29 (.load 1 false (t_ 28))),
 (q_ 30 (.move (t_ 5))),
 (q_ 31 (.call (.func 59) [(t_ 27), (t_ 29), (t_ 30)])),
 (q_ 4 (.move (t_ 31)))])
 (.ret))
 (.seq (.region false [(q_ 33 (.bin .eql 3 (t_ 13) (k_ 7))),
 (q_ 32 (.move (t_ 33)))])
 (.cond (t_ 32)
 (.seq (.region true [(q_ 34 (.move (t_ 1))),
 (q_ 35 (.iaddr 3 (t_ 34) (k_ 0))),
 (q_ 36 (.faddr 0 1 false (t_ 35))),
 (q_ 37 (.load 1 false (t_ 36))),
 (q_ 38 (.faddr 1 1 false (t_ 2))),
 (q_ 39 (.load 1 false (t_ 38))),
 (q_ 40 (.move (t_ 5))),
 (q_ 41 (.call (.func 60) [(t_ 37), (t_ 39), (t_ 40)])),
 (q_ 4 (.move (t_ 41)))])
 (.ret))
 (.seq (.region false [(q_ 43 (.bin .eql 3 (t_ 13) (k_ 8))),
 (q_ 42 (.move (t_ 43)))])
 (.cond (t_ 42)
 (.seq (.region true [(q_ 44 (.move (t_ 1))),
 (q_ 45 (.iaddr 3 (t_ 44) (k_ 0))),
 (q_ 46 (.faddr 0 1 false (t_ 45))),
 (q_ 47 (.load 1 false (t_ 46))),
 (q_ 48 (.faddr 1 1 false (t_ 2))),
 (q_ 49 (.load 1 false (t_ 48))),
 (q_ 50 (.faddr 2 1 false (t_ 2))),
 (q_ 51 (.load 1 false (t_ 50))),
 (q_ 52 (.call (.func 61) [(t_ 47), (t_ 49), (t_ 51)])),
 (q_ 4 (.move (t_ 52)))])
 (.ret))
 (.seq (.region false [(q_ 54 (.bin .eql 3 (t_ 13) (k_ 9))),
 (q_ 53 (.move (t_ 54)))])
 (.cond (t_ 53)
 (.seq (.region true [(q_ 55 (.move (t_ 1))),
 (q_ 56 (.iaddr 3 (t_ 55) (k_ 0))),
 (q_ 57 (.faddr 0 1 false (t_ 56))),
 (q_ 58 (.load 1 false (t_ 57))),
 (q_ 59 (.move (t_ 1))),
 (q_ 60 (.iaddr 3 (t_ 59) (k_ 1))),
 (q_ 61 (.faddr 0 1 false (t_ 60))),
 (q_ 62 (.load 1 false (t_ 61))),
 (q_ 63 (.move (t_ 5))),
 (q_ 64 (.call (.func 62) [(t_ 58), (t_ 62), (t_ 63)])),
 (q_ 4 (.move (t_ 64)))])
 (.ret))
 (.seq (.region false [(q_ 66 (.bin .eql 3 (t_ 13) (k_ 10))),
 (q_ 65 (.move (t_ 66)))])
 (.cond (t_ 65)
 (.seq (.region true [(q_ 67 (.move (t_ 1))),
 (q_ 68 (.iaddr 3 (t_ 67) (k_ 0))),
 (q_ 69 (.faddr 0 1 false (t_ 68))),
 (q_ 70 (.load 1 false (t_ 69))),
 (q_ 71 (.move (t_ 1))),
 (q_ 72 (.iaddr 3 (t_ 71) (k_ 1))),
 (q_ 73 (.faddr 0 1 false (t_ 72))),
 (q_ 74 (.load 1 false (t_ 73))),
 (q_ 75 (.move (t_ 5))),
 (q_ 76 (.call (.func 63) [(t_ 70), (t_ 74), (t_ 75)])),
 (q_ 4 (.move (t_ 76)))])
 (.ret))
 (.seq (.region false [(q_ 78 (.bin .eql 3 (t_ 13) (k_ 11))),
 (q_ 77 (.move (t_ 78)))])
 (.cond (t_ 77)
 (.seq (.region true [(q_ 79 (.move (t_ 1))),
 (q_ 80 (.iaddr 3 (t_ 79) (k_ 0))),
 (q_ 81 (.faddr 0 1 false (t_ 80))),
 (q_ 82 (.load 1 false (t_ 81))),
 (q_ 83 (.move (t_ 1))),
 (q_ 84 (.iaddr 3 (t_ 83) (k_ 1))),
 (q_ 85 (.faddr 0 1 false (t_ 84))),
 (q_ 86 (.load 1 false (t_ 85))),
 (q_ 87 (.bin .and 42 (t_ 82) (t_ 86))),
 (q_ 4 (.move (t_ 87)))])
 (.ret))
 (.seq (.region false [(q_ 89 (.bin .eql 3 (t_ 13) (k_ 12))),
 (q_ 88 (.move (t_ 89)))])
 (.cond (t_ 88)
 (.seq (.region true [(q_ 90 (.move (t_ 1))),
 (q_ 91 (.iaddr 3 (t_ 90) (k_ 0))),
 (q_ 92 (.faddr 0 1 false (t_ 91))),
 (q_ 93 (.load 1 false (t_ 92))),
 (q_ 94 (.move (t_ 1))),
 (q_ 95 (.iaddr 3 (t_ 94) (k_ 1))),
 (q_ 96 (.faddr 0 1 false (t_ 95))),
 (q_ 97 (.load 1 false (t_ 96))),
 (q_ 98 (.bin .or 42 (t_ 93) (t_ 97))),
 (q_ 4 (.move (t_ 98)))])
 (.ret))
 (.seq (.region false [(q_ 100 (.bin .eql 3 (t_ 13) (k_ 13))),
 (q_ 99 (.move (t_ 100)))])
 (.cond (t_ 99)
 (.seq (.region true [(q_ 101 (.move (t_ 1))),
 (q_ 102 (.iaddr 3 (t_ 101) (k_ 0))),
 (q_ 103 (.faddr 0 1 false (t_ 102))),
 (q_ 104 (.load 1 false (t_ 103))),
 (q_ 105 (.move (t_ 1))),
 (q_ 106 (.iaddr 3 (t_ 105) (k_ 1))),
 (q_ 107 (.faddr 0 1 false (t_ 106))),
 (q_ 108 (.load 1 false (t_ 107))),
 (q_ 109 (.bin .xor 42 (t_ 104) (t_ 108))),
 (q_ 4 (.move (t_ 109)))])
 (.ret))
 (.seq (.region false [(q_ 111 (.bin .eql 3 (t_ 13) (k_ 14))),
 (q_ 110 (.move (t_ 111)))])
 (.cond (t_ 110)
 (.seq (.region true [(q_ 113 (.move (t_ 1))),
 (q_ 114 (.iaddr 3 (t_ 113) (k_ 0))),
 (q_ 115 (.faddr 0 1 false (t_ 114))),
 (q_ 116 (.load 1 false (t_ 115))),
 (q_ 117 (.move (t_ 5))),
 (q_ 118 (.move (t_ 1))),
 (q_ 119 (.iaddr 3 (t_ 118) (k_ 1))),
 (q_ 120 (.faddr 0 1 false (t_ 119))),
 (q_ 121 (.load 1 false (t_ 120))),
 (q_ 122 (.move (t_ 1))),
 (q_ 123 (.iaddr 3 (t_ 122) (k_ 1))),
 (q_ 124 (.faddr 1 1 false (t_ 123))),
 (q_ 125 (.load 1 false (t_ 124))),
 (q_ 126 (.call (.func 64) [(t_ 116), (t_ 117), (t_ 121), (t_ 125)])),
 (q_ 112 (.move (t_ 126))),
 (q_ 127 (.extract (t_ 112) 0)),
 (q_ 128 (.extract (t_ 112) 1)),
 (q_ 6 (.move (t_ 127))),
 (q_ 7 (.move (t_ 128)))])
 (.seq (.region false [(q_ 129 (.move (t_ 6))),
 (q_ 4 (.move (t_ 129)))])
 (.ret)))
 (.seq (.region false [(q_ 131 (.bin .eql 3 (t_ 13) (k_ 15))),
 (q_ 130 (.move (t_ 131)))])
 (.cond (t_ 130)
 (.seq (.region true [(q_ 132 (.move (t_ 1))),
 (q_ 133 (.iaddr 3 (t_ 132) (k_ 0))),
 (q_ 134 (.faddr 0 1 false (t_ 133))),
 (q_ 135 (.load 1 false (t_ 134))),
 (q_ 136 (.move (t_ 1))),
 (q_ 137 (.iaddr 3 (t_ 136) (k_ 1))),
 (q_ 138 (.faddr 0 1 false (t_ 137))),
 (q_ 139 (.load 1 false (t_ 138))),
 (q_ 140 (.bin .eql 42 (t_ 135) (t_ 139))),
 (q_ 141 (.call (.func 33) [(t_ 140)])),
 (q_ 4 (.move (t_ 141)))])
 (.ret))
 (.seq (.region false [(q_ 143 (.bin .eql 3 (t_ 13) (k_ 16))),
 (q_ 142 (.move (t_ 143)))])
 (.cond (t_ 142)
 (.seq (.region true [(q_ 144 (.move (t_ 1))),
 (q_ 145 (.iaddr 3 (t_ 144) (k_ 0))),
 (q_ 146 (.faddr 0 1 false (t_ 145))),
 (q_ 147 (.load 1 false (t_ 146))),
 (q_ 148 (.move (t_ 1))),
 (q_ 149 (.iaddr 3 (t_ 148) (k_ 1))),
 (q_ 150 (.faddr 0 1 false (t_ 149))),
 (q_ 151 (.load 1 false (t_ 150))),
 (q_ 152 (.bin .lss 42 (t_ 147) (t_ 151))),
 (q_ 153 (.call (.func 33) [(t_ 152)])),
 (q_ 4 (.move (t_ 153)))])
 (.ret))
 (.skip)))))))))))))))))))))))))))
 (.seq (.seq (.region false [(q_ 154 (.move (t_ 1))),
 (q_ 155 (.iaddr 3 (t_ 154) (k_ 0))),
 (q_ 156 (.faddr 0 1 false (t_ 155))),
 (q_ 157 (.load 1 false (t_ 156))),
 (q_ 158 (.bin .eql 42 (t_ 157) (.const (.int .u32 1))))])
 (.cond (t_ 158)
 (.seq (.region false [(q_ 159 (.move (t_ 1))),
 (q_ 160 (.iaddr 3 (t_ 159) (k_ 1))),
 (q_ 161 (.faddr 0 1 false (t_ 160))),
 (q_ 162 (.load 1 false (t_ 161))),
 (q_ 4 (.move (t_ 162)))])
 (.ret))
 (.skip)))
 (.seq (.region false [(q_ 163 (.move (t_ 1))),
 (q_ 164 (.iaddr 3 (t_ 163) (k_ 2))),
 (q_ 165 (.faddr 0 1 false (t_ 164))),
 (q_ 166 (.load 1 false (t_ 165))),
 (q_ 4 (.move (t_ 166)))])
 (.ret)))))
theorem text35 : FnText Tryz.prog 35 [] 167 2 ac35 [(4, none)] :=
 ⟨Tryz.call35, follows, Tryz.f35, _, Tryz.func35, rfl, rfl, by decide, by kernel_rfl, by kernel_rfl⟩

def ac17_G1 : List AOper :=
 [⟨(some 88), .faddr 0 1 false (t_ 8), (some (87, true)), false⟩,
 ⟨(some 89), .load 1 false (t_ 88), (some (87, true)), false⟩,
 ⟨(some 90), .faddr 1 1 false (t_ 11), (some (87, true)), false⟩,
 ⟨(some 91), .load 1 false (t_ 90), (some (87, true)), false⟩,
 ⟨(some 92), .iaddr 1 (t_ 89) (t_ 91), (some (87, true)), false⟩,
 ⟨(some 93), .load 1 false (t_ 92), (some (87, true)), false⟩,
 (q_ 94 (.pick (t_ 87) (t_ 93) (.const (.bool false))))]
def ac17_L1 : AC :=
 .seq (.seq (.region false [(q_ 102 (.move (t_ 18))),
 (q_ 103 (.faddr 0 1 false (t_ 11))),
 (q_ 104 (.load 1 false (t_ 103))),
 (q_ 105 (.call (.func 34) [(t_ 104)])),
 (q_ 106 (.bin .lss 3 (t_ 102) (t_ 105)))])
 (.cond (t_ 106)
 (.skip)
 (.exit 1)))
 (.seq (.block 2 (.seq (.region false [(q_ 109 (.move (t_ 0))),
 (q_ 110 (.move (t_ 17))),
 (q_ 111 (.load 10 true (t_ 7))),
 (q_ 112 (.load 4 true (t_ 8))),
 (q_ 113 (.move (t_ 4))),
 (q_ 114 (.call (.func 17) [(t_ 109), (t_ 110), (t_ 111), (t_ 112), (t_ 113)])),
 (q_ 19 (.alloc true 75 (.agg [(.int .u32 0), (.int .i64 0), (.int .i64 0)].toArray))),
 ⟨none, .store 3 (t_ 19) (t_ 114), none, false⟩])
 (.seq (.region false [(q_ 115 (.move (t_ 16))),
 (q_ 116 (.load 3 true (t_ 19))),
 (q_ 117 (.bslice false 75 3 false [(t_ 116)])),
 (q_ 118 (.append 96 75 3 24 (t_ 115) (t_ 117))),
 (q_ 16 (.move (t_ 118)))])
 (.region false [(q_ 119 (.faddr 2 1 false (t_ 19))),
 (q_ 120 (.load 1 false (t_ 119))),
 (q_ 17 (.move (t_ 120)))]))))
 (.region false [(q_ 107 (.move (t_ 18))),
 (q_ 108 (.bin .add 3 (t_ 107) (k_ 1))),
 (q_ 18 (.move (t_ 108)))]))
/-- patchbay/patchbayref13.eval -/
def ac17 : AC :=
 .seq (.region false [(q_ 7 (.box false 48 (t_ 2))),
 (q_ 8 (.box false 38 (t_ 3))),
 (q_ 10 (.alloc true 75 (.agg [(.int .u32 0), (.int .i64 0), (.int .i64 0)].toArray)))])
 (.seq (.region false [(q_ 20 (.move (t_ 0))),
 (q_ 21 (.move (t_ 1))),
 (q_ 22 (.iaddr 3 (t_ 20) (t_ 21))),
 (q_ 23 (.load 3 true (t_ 22))),
 (q_ 11 (.alloc true 55 (.agg [(.int .i64 0), (.int .i64 0), (.int .i64 0)].toArray))),
 ⟨none, .store 3 (t_ 11) (t_ 23), none, false⟩])
 (.seq (.region false [(q_ 25 (.move (t_ 0))),
 (q_ 26 (.move (t_ 1))),
 (q_ 27 (.load 10 true (t_ 7))),
 (q_ 28 (.call (.func 30) [(t_ 25), (t_ 26), (t_ 27)])),
 (q_ 24 (.move (t_ 28))),
 (q_ 29 (.extract (t_ 24) 0)),
 (q_ 30 (.extract (t_ 24) 1)),
 (q_ 31 (.extract (t_ 24) 2)),
 (q_ 12 (.move (t_ 29))),
 (q_ 13 (.move (t_ 30))),
 (q_ 14 (.move (t_ 31)))])
 (.seq (.seq (.region false [(q_ 32 (.faddr 0 1 false (t_ 11))),
 (q_ 33 (.load 1 false (t_ 32)))])
 (.block 0 (.seq (.region false [(q_ 35 (.bin .eql 3 (t_ 33) (k_ 1))),
 (q_ 34 (.move (t_ 35)))])
 (.cond (t_ 34)
 (.seq (.region false [(q_ 36 (.faddr 1 1 false (t_ 11))),
 (q_ 37 (.load 1 false (t_ 36))),
 (q_ 38 (.conv 3 42 (t_ 37))),
 (q_ 39 (.move (t_ 12))),
 (q_ 40 (.move (t_ 1))),
 (q_ 41 (.bin .add 3 (t_ 40) (k_ 1))),
 (q_ 42 (.build [(.int .u32 0), (.int .i64 0), (.int .i64 0)] [(0, 1, (t_ 38)), (1, 1, (t_ 39)), (2, 1, (t_ 41))])),
 ⟨none, .store 3 (t_ 10) (t_ 42), none, false⟩])
 (.ret))
 (.seq (.region false [(q_ 44 (.bin .eql 3 (t_ 33) (k_ 2))),
 (q_ 43 (.move (t_ 44)))])
 (.cond (t_ 43)
 (.seq (.region false [(q_ 45 (.load 4 true (t_ 8))),
 (q_ 46 (.faddr 1 1 false (t_ 11))),
 (q_ 47 (.load 1 false (t_ 46))),
 (q_ 48 (.faddr 2 1 false (t_ 11))),
 (q_ 49 (.load 1 false (t_ 48))),
 (q_ 50 (.build [(.int .i64 0), (.int .i64 0)] [(0, 1, (t_ 47)), (1, 1, (t_ 49))])),
 (q_ 51 (.call (.func 32) [(t_ 45), (t_ 50)])),
 (q_ 52 (.conv 42 93 (t_ 51))),
 (q_ 53 (.move (t_ 12))),
 (q_ 54 (.call (.func 31) [(t_ 52), (t_ 53)])),
 (q_ 55 (.move (t_ 12))),
 (q_ 56 (.move (t_ 1))),
 (q_ 57 (.bin .add 3 (t_ 56) (k_ 1))),
 (q_ 58 (.build [(.int .u32 0), (.int .i64 0), (.int .i64 0)] [(0, 1, (t_ 54)), (1, 1, (t_ 55)), (2, 1, (t_ 57))])),
 ⟨none, .store 3 (t_ 10) (t_ 58), none, false⟩])
 (.ret))
 (.seq (.region false [(q_ 60 (.bin .eql 3 (t_ 33) (k_ 3))),
 (q_ 59 (.move (t_ 60)))])
 (.cond (t_ 59)
 (.seq (.region false [(q_ 15 (.move (.const (.int .u32 0))))])
 (.seq (.seq (.region false [(q_ 61 (.faddr 1 1 false (t_ 11))),
 (q_ 62 (.load 1 false (t_ 61))),
 (q_ 63 (.move (t_ 4))),
 (q_ 64 (.bi .len [35].toArray 3 [(t_ 63)])),
 (q_ 65 (.bin .lss 3 (t_ 62) (t_ 64)))])
 (.cond (t_ 65)
 (.region false [(q_ 66 (.move (t_ 4))),
 (q_ 67 (.faddr 1 1 false (t_ 11))),
 (q_ 68 (.load 1 false (t_ 67))),
 (q_ 69 (.iaddr 1 (t_ 66) (t_ 68))),
 (q_ 70 (.load 1 false (t_ 69))),
 (q_ 71 (.conv 42 93 (t_ 70))),
 (q_ 72 (.move (t_ 12))),
 (q_ 73 (.call (.func 31) [(t_ 71), (t_ 72)])),
 (q_ 15 (.move (t_ 73)))])
 (.skip)))
 (.seq (.region false [(q_ 74 (.move (t_ 15))),
 (q_ 75 (.move (t_ 12))),
 (q_ 76 (.move (t_ 1))),
 (q_ 77 (.bin .add 3 (t_ 76) (k_ 1))),
 (q_ 78 (.build [(.int .u32 0), (.int .i64 0), (.int .i64 0)] [(0, 1, (t_ 74)), (1, 1, (t_ 75)), (2, 1, (t_ 77))])),
 ⟨none, .store 3 (t_ 10) (t_ 78), none, false⟩])
 (.ret))))
 (.seq (.region false [(q_ 80 (.bin .eql 3 (t_ 33) (k_ 4))),
 (q_ 79 (.move (t_ 80)))])
 (.cond (t_ 79)
 (.seq (.region false ((q_ 81 (.faddr 1 1 false (t_ 11))) :: (q_ 82 (.load 1 false (t_ 81))) :: (q_ 83 (.faddr 0 1 false (t_ 8))) :: (q_ 84 (.load 1 false (t_ 83))) :: (q_ 85 (.bi .len [33].toArray 3 [(t_ 84)])) :: (q_ 86 (.bin .lss 3 (t_ 82) (t_ 85))) :: (q_ 87 (.move (t_ 86))) :: (ac17_G1 ++ [(q_ 95 (.call (.func 33) [(t_ 94)])),
 (q_ 96 (.move (t_ 12))),
 (q_ 97 (.move (t_ 1))),
 (q_ 98 (.bin .add 3 (t_ 97) (k_ 1))),
 (q_ 99 (.build [(.int .u32 0), (.int .i64 0), (.int .i64 0)] [(0, 1, (t_ 95)), (1, 1, (t_ 96)), (2, 1, (t_ 98))])),
 ⟨none, .store 3 (t_ 10) (t_ 99), none, false⟩])))
 (.ret))
 (.skip)))))))))))
 (.seq (.region false [(q_ 16 (.move (.const (.slice none 0 0))))])
 (.seq (.region false [(q_ 100 (.move (t_ 1))),
 (q_ 101 (.bin .add 3 (t_ 100) (k_ 1))),
 (q_ 17 (.move (t_ 101)))])
 (.seq (.seq (.region false [(q_ 18 (.move (k_ 0)))])
 (.block 1 (.loop ac17_L1)))
 (.seq (.region false [(q_ 121 (.load 3 true (t_ 11))),
 (q_ 122 (.move (t_ 16))),
 (q_ 123 (.call (.func 35) [(t_ 121), (t_ 122)])),
 (q_ 124 (.move (t_ 12))),
 (q_ 125 (.move (t_ 17))),
 (q_ 126 (.build [(.int .u32 0), (.int .i64 0), (.int .i64 0)] [(0, 1, (t_ 123)), (1, 1, (t_ 124)), (2, 1, (t_ 125))])),
 ⟨none, .store 3 (t_ 10) (t_ 126), none, false⟩])
 (.ret))))))))
theorem text17 : FnText Tryz.prog 17 [10, 11, 19] 127 5 ac17 [(10, some (3, true))] :=
 ⟨Tryz.call17, follows, Tryz.f17, _, Tryz.func17, rfl, rfl, by decide, by kernel_rfl, by kernel_rfl⟩


/-- patchbay/patchbayref13.Eval -/
def ac7 : AC :=
 .seq (.region false [(q_ 5 (.box false 48 (t_ 1))),
 (q_ 6 (.box false 38 (t_ 2))),
 (q_ 8 (.move (.const (.int .u32 0))))])
 (.seq (.region false [(q_ 12 (.move (t_ 0))),
 (q_ 13 (.load 10 true (t_ 5))),
 (q_ 14 (.call (.func 16) [(t_ 12), (t_ 13)])),
 (q_ 11 (.move (t_ 14))),
 (q_ 15 (.extract (t_ 11) 0)),
 (q_ 16 (.extract (t_ 11) 1)),
 (q_ 9 (.move (t_ 15))),
 (q_ 10 (.move (t_ 16)))])
 (.seq (.seq (.region false [(q_ 17 (.move (t_ 10))),
 (q_ 18 (.bin .neq 57 (t_ 17) (k_ 0)))])
 (.cond (t_ 18)
 (.seq (.region false [(q_ 8 (.move (.const (.int .u32 0))))])
 (.ret))
 (.skip)))
 (.seq (.region false [(q_ 19 (.move (t_ 0))),
 (q_ 20 (.load 10 true (t_ 5))),
 (q_ 21 (.load 4 true (t_ 6))),
 (q_ 22 (.move (t_ 3))),
 (q_ 23 (.call (.func 17) [(t_ 19), (k_ 0), (t_ 20), (t_ 21), (t_ 22)])),
 (q_ 24 (.field 0 1 false (t_ 23))),
 (q_ 8 (.move (t_ 24)))])
 (.ret))))
theorem text7 : FnText Tryz.prog 7 [] 25 4 ac7 [(8, none)] :=
 ⟨Tryz.call7, follows, Tryz.f7, _, Tryz.func7, rfl, rfl, by decide, by kernel_rfl, by kernel_rfl⟩

def ac3_G1 : List AOper :=
 [⟨(some 31), .call (.func 4) [], (some (30, true)), false⟩,
 (q_ 32 (.pick (t_ 30) (t_ 31) (.const (.bool false))))]
/-- patchbay/patchbaylaw13.ExprEvaluates -/
def ac3 : AC :=
 .seq (.region false [(q_ 1 (.box false 40 (t_ 0))),
 (q_ 2 (.move (.const (.bool false))))])
 (.seq (.seq (.region false [(q_ 3 (.faddr 10 1 false (t_ 1))),
 (q_ 4 (.load 1 false (t_ 3))),
 (q_ 5 (.bi .len [32].toArray 3 [(t_ 4)])),
 (q_ 6 (.bin .gtr 3 (t_ 5) (k_ 100)))])
 (.cond (t_ 6)
 (.seq (.region false [(q_ 7 (.call (.func 4) [])),
 (q_ 2 (.move (t_ 7)))])
 (.ret))
 (.skip)))
 (.seq (.region true ((q_ 8 (.faddr 10 1 false (t_ 1))) :: (q_ 9 (.load 1 false (t_ 8))) :: (q_ 10 (.load 16 true (t_ 1))) :: (q_ 11 (.call (.func 6) [(t_ 10)])) :: (q_ 12 (.faddr 11 4 true (t_ 1))) :: (q_ 13 (.load 4 true (t_ 12))) :: (q_ 14 (.faddr 15 1 false (t_ 1))) :: (q_ 15 (.load 1 false (t_ 14))) :: (q_ 16 (.call (.func 5) [(t_ 9), (t_ 11), (t_ 13), (t_ 15)])) :: (q_ 17 (.faddr 10 1 false (t_ 1))) :: (q_ 18 (.load 1 false (t_ 17))) :: (q_ 19 (.faddr 0 9 true (t_ 1))) :: (q_ 20 (.load 9 true (t_ 19))) :: (q_ 21 (.faddr 9 1 false (t_ 1))) :: (q_ 22 (.load 1 false (t_ 21))) :: ⟨(some 23), .build [(.string ⟨[].toArray⟩), (.slice none 0 0), (.slice none 0 0), (.slice none 0 0), (.slice none 0 0), (.slice none 0 0), (.slice none 0 0), (.slice none 0 0), (.slice none 0 0), (.slice none 0 0)] [(0, 9, (t_ 20)), (9, 1, (t_ 22))], none, false⟩ :: (q_ 24 (.faddr 11 4 true (t_ 1))) :: (q_ 25 (.load 4 true (t_ 24))) :: (q_ 26 (.faddr 15 1 false (t_ 1))) :: (q_ 27 (.load 1 false (t_ 26))) :: (q_ 28 (.call (.func 7) [(t_ 18), (t_ 23), (t_ 25), (t_ 27)])) :: (q_ 29 (.bin .eql 42 (t_ 16) (t_ 28))) :: (q_ 30 (.move (t_ 29))) :: (ac3_G1 ++ [(q_ 2 (.move (t_ 32)))])))
 (.ret)))
theorem text3 : FnText Tryz.prog 3 [] 33 1 ac3 [(2, none)] :=
 ⟨Tryz.call3, follows, Tryz.f3, _, Tryz.func3, rfl, rfl, by decide, by kernel_rfl, by kernel_rfl⟩


/-- patchbay/patchbaylaw13.constant -/
def ac8 : AC :=
 .seq (.region false [(q_ 2 (.alloc true 55 (.agg [(.int .i64 0), (.int .i64 0), (.int .i64 0)].toArray)))])
 (.seq (.region false [(q_ 3 (.move (t_ 0))),
 (q_ 4 (.build [(.int .i64 0), (.int .i64 0), (.int .i64 0)] [(0, 1, (k_ 1)), (1, 1, (t_ 3)), (2, 1, (k_ 8))])),
 ⟨none, .store 3 (t_ 2) (t_ 4), none, false⟩])
 (.ret))
theorem text8 : FnText Tryz.prog 8 [2] 5 1 ac8 [(2, some (3, true))] :=
 ⟨Tryz.call8, follows, Tryz.f8, _, Tryz.func8, rfl, rfl, by decide, by kernel_rfl, by kernel_rfl⟩

def ac10_G1 : List AOper :=
 [⟨(some 10), .move (t_ 1), (some (9, false)), false⟩,
 ⟨(some 11), .move (t_ 0), (some (9, false)), false⟩,
 ⟨(some 12), .bi .len [32].toArray 3 [(t_ 11)], (some (9, false)), false⟩,
 ⟨(some 13), .bin .geq 3 (t_ 10) (t_ 12), (some (9, false)), false⟩,
 (q_ 14 (.pick (t_ 9) (.const (.bool true)) (t_ 13)))]
def ac10_L1 : AC :=
 .seq (.seq (.region false [(q_ 15 (.move (t_ 5))),
 (q_ 16 (.bin .gtr 3 (t_ 15) (k_ 0)))])
 (.cond (t_ 16)
 (.skip)
 (.exit 0)))
 (.seq (.block 1 (.seq (.seq (.region false [(q_ 19 (.move (t_ 1))),
 (q_ 20 (.move (t_ 0))),
 (q_ 21 (.bi .len [32].toArray 3 [(t_ 20)])),
 (q_ 22 (.bin .geq 3 (t_ 19) (t_ 21)))])
 (.cond (t_ 22)
 (.seq (.region false [(q_ 4 (.move (.const (.int .i64 (-1)))))])
 (.ret))
 (.skip)))
 (.seq (.region false [(q_ 23 (.move (t_ 0))),
 (q_ 24 (.move (t_ 1))),
 (q_ 25 (.iaddr 3 (t_ 23) (t_ 24))),
 (q_ 26 (.faddr 0 1 false (t_ 25))),
 (q_ 27 (.load 1 false (t_ 26))),
 (q_ 28 (.call (.func 19) [(t_ 27)])),
 (q_ 6 (.move (t_ 28)))])
 (.seq (.seq (.region false [(q_ 29 (.move (t_ 6))),
 (q_ 30 (.bin .lss 3 (t_ 29) (k_ 0)))])
 (.cond (t_ 30)
 (.seq (.region false [(q_ 4 (.move (.const (.int .i64 (-1)))))])
 (.ret))
 (.skip)))
 (.region false [(q_ 31 (.move (t_ 5))),
 (q_ 32 (.move (t_ 6))),
 (q_ 33 (.bin .sub 3 (t_ 32) (k_ 1))),
 (q_ 34 (.bin .add 3 (t_ 31) (t_ 33))),
 (q_ 5 (.move (t_ 34)))])))))
 (.region false [(q_ 17 (.move (t_ 1))),
 (q_ 18 (.bin .add 3 (t_ 17) (k_ 1))),
 (q_ 1 (.move (t_ 18)))]))
/-- patchbay/expr.End -/
def ac10 : AC :=
 .seq (.region false [(q_ 4 (.move (k_ 0)))])
 (.seq (.seq (.region false ((q_ 7 (.move (t_ 1))) :: (q_ 8 (.bin .lss 3 (t_ 7) (k_ 0))) :: (q_ 9 (.move (t_ 8))) :: (ac10_G1 ++ [])))
 (.cond (t_ 14)
 (.seq (.region false [(q_ 4 (.move (.const (.int .i64 (-1)))))])
 (.ret))
 (.skip)))
 (.seq (.seq (.region false [(q_ 5 (.move (k_ 1)))])
 (.block 0 (.loop ac10_L1)))
 (.seq (.region false [(q_ 35 (.move (t_ 1))),
 (q_ 4 (.move (t_ 35)))])
 (.ret))))
theorem text10 : FnText Tryz.prog 10 [] 36 2 ac10 [(4, none)] :=
 ⟨Tryz.call10, follows, Tryz.f10, _, Tryz.func10, rfl, rfl, by decide, by kernel_rfl, by kernel_rfl⟩

def ac12_L1 : AC :=
 .seq (.region false [(q_ 9 (.bin .lss 3 (t_ 8) (t_ 7)))])
 (.seq (.cond (t_ 9)
 (.skip)
 (.exit 0))
 (.seq (.block 1 (.seq (.region false [(q_ 10 (.iaddr 3 (t_ 6) (t_ 8))),
 (q_ 11 (.load 3 true (t_ 10))),
 (q_ 5 (.alloc true 55 (.agg [(.int .i64 0), (.int .i64 0), (.int .i64 0)].toArray))),
 ⟨none, .store 3 (t_ 5) (t_ 11), none, false⟩])
 (.seq (.region false [(q_ 12 (.faddr 0 1 false (t_ 5))),
 (q_ 13 (.load 1 false (t_ 12))),
 (q_ 14 (.bin .eql 3 (t_ 13) (k_ 2)))])
 (.cond (t_ 14)
 (.region false [(q_ 15 (.move (t_ 3))),
 (q_ 16 (.faddr 1 1 false (t_ 5))),
 (q_ 17 (.load 1 false (t_ 16))),
 (q_ 18 (.faddr 2 1 false (t_ 5))),
 (q_ 19 (.load 1 false (t_ 18))),
 (q_ 20 (.build [(.int .i64 0), (.int .i64 0)] [(0, 1, (t_ 17)), (1, 1, (t_ 19))])),
 (q_ 21 (.bslice false 65 2 false [(t_ 20)])),
 (q_ 22 (.append 62 65 2 16 (t_ 15) (t_ 21))),
 (q_ 3 (.move (t_ 22)))])
 (.skip)))))
 (.region false [(q_ 23 (.bin .add 3 (t_ 8) (k_ 1))),
 (q_ 8 (.move (t_ 23)))])))
/-- patchbay/expr.Fields -/
def ac12 : AC :=
 .seq (.region false [(q_ 2 (.move (.const (.slice none 0 0))))])
 (.seq (.region false [(q_ 3 (.move (.const (.slice none 0 0))))])
 (.seq (.seq (.region false [(q_ 6 (.move (t_ 0))),
 (q_ 7 (.bi .len [32].toArray 3 [(t_ 6)])),
 (q_ 8 (.move (k_ 0)))])
 (.block 0 (.loop ac12_L1)))
 (.seq (.region false [(q_ 24 (.move (t_ 3))),
 (q_ 25 (.call (.func 20) [(t_ 24), (.func 21)]))])
 (.seq (.region false [(q_ 26 (.move (t_ 3))),
 (q_ 27 (.call (.func 24) [(t_ 26)])),
 (q_ 2 (.move (t_ 27)))])
 (.ret)))))
theorem text12 : FnText Tryz.prog 12 [5] 28 1 ac12 [(2, none)] :=
 ⟨Tryz.call12, follows, Tryz.f12, _, Tryz.func12, rfl, rfl, by decide, by kernel_rfl, by kernel_rfl⟩


/-- slices.SortFunc[[]patchbay/api.FieldRef,patchbay/api.FieldRef] -/
def ac20 : AC :=
 .seq (.region false [(q_ 5 (.move (t_ 0))),
 (q_ 6 (.bi .len [62].toArray 3 [(t_ 5)])),
 (q_ 4 (.move (t_ 6)))])
 (.region false [(q_ 7 (.move (t_ 0))),
 (q_ 8 (.move (t_ 4))),
 (q_ 9 (.move (t_ 4))),
 (q_ 10 (.conv 3 103 (t_ 9))),
 (q_ 11 (.call (.func 39) [(t_ 10)])),
 (q_ 12 (.move (t_ 1))),
 (q_ 13 (.call (.func 38) [(t_ 7), (k_ 0), (t_ 8), (t_ 11), (t_ 12)]))])
theorem text20 : FnText Tryz.prog 20 [] 14 2 ac20 [] :=
 ⟨Tryz.call20, follows, Tryz.f20, _, Tryz.func20, rfl, rfl, by decide, by kernel_rfl, by kernel_rfl⟩


/-- math/bits.Len -/
def ac39 : AC :=
 .seq (.region false [(q_ 2 (.move (k_ 0)))])
 (.seq (.cond (.const (.bool false))
 (.seq (.region false [(q_ 3 (.move (t_ 0))),
 (q_ 4 (.conv 103 42 (t_ 3))),
 (q_ 5 (.call (.func 75) [(t_ 4)])),
 (q_ 2 (.move (t_ 5)))])
 (.ret))
 (.skip))
 (.seq (.region false [(q_ 6 (.move (t_ 0))),
 (q_ 7 (.call (.func 76) [(t_ 6)])),
 (q_ 2 (.move (t_ 7)))])
 (.ret)))
theorem text39 : FnText Tryz.prog 39 [] 8 1 ac39 [(2, none)] :=
 ⟨Tryz.call39, follows, Tryz.f39, _, Tryz.func39, rfl, rfl, by decide, by kernel_rfl, by kernel_rfl⟩


/-- math/bits.Len32 -/
def ac75 : AC :=
 .seq (.region false [(q_ 2 (.move (k_ 0)))])
 (.seq (.seq (.region false [(q_ 3 (.move (t_ 0))),
 (q_ 4 (.bin .geq 42 (t_ 3) (.const (.int .u32 65536))))])
 (.cond (t_ 4)
 (.seq (.region false [(q_ 5 (.move (t_ 0))),
 (q_ 6 (.bin .shr 42 (t_ 5) (.const (.int .u64 16)))),
 (q_ 0 (.move (t_ 6)))])
 (.region false [(q_ 2 (.move (k_ 16)))]))
 (.skip)))
 (.seq (.seq (.region false [(q_ 7 (.move (t_ 0))),
 (q_ 8 (.bin .geq 42 (t_ 7) (.const (.int .u32 256))))])
 (.cond (t_ 8)
 (.seq (.region false [(q_ 9 (.move (t_ 0))),
 (q_ 10 (.bin .shr 42 (t_ 9) (.const (.int .u64 8)))),
 (q_ 0 (.move (t_ 10)))])
 (.region false [(q_ 11 (.move (t_ 2))),
 (q_ 12 (.bin .add 3 (t_ 11) (k_ 8))),
 (q_ 2 (.move (t_ 12)))]))
 (.skip)))
 (.seq (.region false [(q_ 13 (.move (t_ 2))),
 (q_ 14 (.move (t_ 0))),
 (q_ 15 (.conv 42 5 (t_ 14))),
 ⟨(some 16), .indexS 9 (.const (.string ⟨[0, 1, 2, 2, 3, 3, 3, 3, 4, 4, 4, 4, 4, 4, 4, 4, 5, 5, 5, 5, 5, 5, 5, 5, 5, 5, 5, 5, 5, 5, 5, 5, 6, 6, 6, 6, 6, 6, 6, 6, 6, 6, 6, 6, 6, 6, 6, 6, 6, 6, 6, 6, 6, 6, 6, 6, 6, 6, 6, 6, 6, 6, 6, 6, 7, 7, 7, 7, 7, 7, 7, 7, 7, 7, 7, 7, 7, 7, 7, 7, 7, 7, 7, 7, 7, 7, 7, 7, 7, 7, 7, 7, 7, 7, 7, 7, 7, 7, 7, 7, 7, 7, 7, 7, 7, 7, 7, 7, 7, 7, 7, 7, 7, 7, 7, 7, 7, 7, 7, 7, 7, 7, 7, 7, 7, 7, 7, 7, 8, 8, 8, 8, 8, 8, 8, 8, 8, 8, 8, 8, 8, 8, 8, 8, 8, 8, 8, 8, 8, 8, 8, 8, 8, 8, 8, 8, 8, 8, 8, 8, 8, 8, 8, 8, 8, 8, 8, 8, 8, 8, 8, 8, 8, 8, 8, 8, 8, 8, 8, 8, 8, 8, 8, 8, 8, 8, 8, 8, 8, 8, 8, 8, 8, 8, 8, 8, 8, 8, 8, 8, 8, 8, 8, 8, 8, 8, 8, 8, 8, 8, 8, 8, 8, 8, 8, 8, 8, 8, 8, 8, 8, 8, 8, 8, 8, 8, 8, 8, 8, 8, 8, 8, 8, 8, 8, 8, 8, 8, 8, 8, 8, 8, 8, 8, 8, 8, 8, 8, 8, 8, 8, 8, 8, 8, 8, 8].toArray⟩)) (t_ 15), none, false⟩,
 (q_ 17 (.conv 5 3 (t_ 16))),
 (q_ 18 (.bin .add 3 (t_ 13) (t_ 17))),
 (q_ 2 (.move (t_ 18)))])
 (.ret))))
theorem text75 : FnText Tryz.prog 75 [] 19 1 ac75 [(2, none)] :=
 ⟨Tryz.call75, follows, Tryz.f75, _, Tryz.func75, rfl, rfl, by decide, by kernel_rfl, by kernel_rfl⟩


/-- math/bits.Len64 -/
def ac76 : AC :=
 .seq (.region false [(q_ 2 (.move (k_ 0)))])
 (.seq (.seq (.region false [(q_ 3 (.move (t_ 0))),
 (q_ 4 (.bin .geq 93 (t_ 3) (.const (.int .u64 4294967296))))])
 (.cond (t_ 4)
 (.seq (.region false [(q_ 5 (.move (t_ 0))),
 (q_ 6 (.bin .shr 93 (t_ 5) (.const (.int .u64 32)))),
 (q_ 0 (.move (t_ 6)))])
 (.region false [(q_ 2 (.move (k_ 32)))]))
 (.skip)))
 (.seq (.seq (.region false [(q_ 7 (.move (t_ 0))),
 (q_ 8 (.bin .geq 93 (t_ 7) (.const (.int .u64 65536))))])
 (.cond (t_ 8)
 (.seq (.region false [(q_ 9 (.move (t_ 0))),
 (q_ 10 (.bin .shr 93 (t_ 9) (.const (.int .u64 16)))),
 (q_ 0 (.move (t_ 10)))])
 (.region false [(q_ 11 (.move (t_ 2))),
 (q_ 12 (.bin .add 3 (t_ 11) (k_ 16))),
 (q_ 2 (.move (t_ 12)))]))
 (.skip)))
 (.seq (.seq (.region false [(q_ 13 (.move (t_ 0))),
 (q_ 14 (.bin .geq 93 (t_ 13) (.const (.int .u64 256))))])
 (.cond (t_ 14)
 (.seq (.region false [(q_ 15 (.move (t_ 0))),
 (q_ 16 (.bin .shr 93 (t_ 15) (.const (.int .u64 8)))),
 (q_ 0 (.move (t_ 16)))])
 (.region false [(q_ 17 (.move (t_ 2))),
 (q_ 18 (.bin .add 3 (t_ 17) (k_ 8))),
 (q_ 2 (.move (t_ 18)))]))
 (.skip)))
 (.seq (.region false [(q_ 19 (.move (t_ 2))),
 (q_ 20 (.move (t_ 0))),
 (q_ 21 (.conv 93 5 (t_ 20))),
 ⟨(some 22), .indexS 9 (.const (.string ⟨[0, 1, 2, 2, 3, 3, 3, 3, 4, 4, 4, 4, 4, 4, 4, 4, 5, 5, 5, 5, 5, 5, 5, 5, 5, 5, 5, 5, 5, 5, 5, 5, 6, 6, 6, 6, 6, 6, 6, 6, 6, 6, 6, 6, 6, 6, 6, 6, 6, 6, 6, 6, 6, 6, 6, 6, 6, 6, 6, 6, 6, 6, 6, 6, 7, 7, 7, 7, 7, 7, 7, 7, 7, 7, 7, 7, 7, 7, 7, 7, 7, 7, 7, 7, 7, 7, 7, 7, 7, 7, 7, 7, 7, 7, 7, 7, 7, 7, 7, 7, 7, 7, 7, 7, 7, 7, 7, 7, 7, 7, 7, 7, 7, 7, 7, 7, 7, 7, 7, 7, 7, 7, 7, 7, 7, 7, 7, 7, 8, 8, 8, 8, 8, 8, 8, 8, 8, 8, 8, 8, 8, 8, 8, 8, 8, 8, 8, 8, 8, 8, 8, 8, 8, 8, 8, 8, 8, 8, 8, 8, 8, 8, 8, 8, 8, 8, 8, 8, 8, 8, 8, 8, 8, 8, 8, 8, 8, 8, 8, 8, 8, 8, 8, 8, 8, 8, 8, 8, 8, 8, 8, 8, 8, 8, 8, 8, 8, 8, 8, 8, 8, 8, 8, 8, 8, 8, 8, 8, 8, 8, 8, 8, 8, 8, 8, 8, 8, 8, 8, 8, 8, 8, 8, 8, 8, 8, 8, 8, 8, 8, 8, 8, 8, 8, 8, 8, 8, 8, 8, 8, 8, 8, 8, 8, 8, 8, 8, 8, 8, 8, 8, 8, 8, 8, 8, 8].toArray⟩)) (t_ 21), none, false⟩,
 (q_ 23 (.conv 5 3 (t_ 22))),
 (q_ 24 (.bin .add 3 (t_ 19) (t_ 23))),
 (q_ 2 (.move (t_ 24)))])
 (.ret)))))
theorem text76 : FnText Tryz.prog 76 [] 25 1 ac76 [(2, none)] :=
 ⟨Tryz.call76, follows, Tryz.f76, _, Tryz.func76, rfl, rfl, by decide, by kernel_rfl, by kernel_rfl⟩

def ac38_G1 : List AOper :=
 [⟨(some 70), .move (t_ 11), (some (69, true)), false⟩,
 (q_ 71 (.pick (t_ 69) (t_ 70) (.const (.bool false))))]
def ac38_G2 : List AOper :=
 [⟨(some 73), .move (t_ 14), (some (72, true)), false⟩,
 ⟨(some 74), .bin .eql 122 (t_ 73) (k_ 1), (some (72, true)), false⟩,
 (q_ 75 (.pick (t_ 72) (t_ 74) (.const (.bool false))))]
def ac38_G3 : List AOper :=
 [⟨(some 84), .move (t_ 4), (some (83, true)), false⟩,
 ⟨(some 85), .move (t_ 0), (some (83, true)), false⟩,
 ⟨(some 86), .move (t_ 1), (some (83, true)), false⟩,
 ⟨(some 87), .bin .sub 3 (t_ 86) (k_ 1), (some (83, true)), false⟩,
 ⟨(some 88), .iaddr 2 (t_ 85) (t_ 87), (some (83, true)), false⟩,
 ⟨(some 89), .load 2 true (t_ 88), (some (83, true)), false⟩,
 ⟨(some 90), .move (t_ 0), (some (83, true)), false⟩,
 ⟨(some 91), .move (t_ 13), (some (83, true)), false⟩,
 ⟨(some 92), .iaddr 2 (t_ 90) (t_ 91), (some (83, true)), false⟩,
 ⟨(some 93), .load 2 true (t_ 92), (some (83, true)), false⟩,
 ⟨(some 94), .call (t_ 84) [(t_ 89), (t_ 93)], (some (83, true)), false⟩,
 ⟨(some 95), .bin .lss 3 (t_ 94) (k_ 0), (some (83, true)), false⟩,
 ⟨(some 96), .un .not (t_ 95), (some (83, true)), false⟩,
 (q_ 97 (.pick (t_ 83) (t_ 96) (.const (.bool false))))]
def ac38_L1 : AC :=
 .block 1 (.seq (.region false [(q_ 21 (.move (t_ 2))),
 (q_ 22 (.move (t_ 1))),
 (q_ 23 (.bin .sub 3 (t_ 21) (t_ 22))),
 (q_ 12 (.move (t_ 23)))])
 (.seq (.seq (.region false [(q_ 24 (.move (t_ 12))),
 (q_ 25 (.bin .leq 3 (t_ 24) (k_ 12)))])
 (.cond (t_ 25)
 (.seq (.region false [(q_ 26 (.move (t_ 0))),
 (q_ 27 (.move (t_ 1))),
 (q_ 28 (.move (t_ 2))),
 (q_ 29 (.move (t_ 4))),
 (q_ 30 (.call (.func 67) [(t_ 26), (t_ 27), (t_ 28), (t_ 29)]))])
 (.ret))
 (.skip)))
 (.seq (.seq (.region false [(q_ 31 (.move (t_ 3))),
 (q_ 32 (.bin .eql 3 (t_ 31) (k_ 0)))])
 (.cond (t_ 32)
 (.seq (.region false [(q_ 33 (.move (t_ 0))),
 (q_ 34 (.move (t_ 1))),
 (q_ 35 (.move (t_ 2))),
 (q_ 36 (.move (t_ 4))),
 (q_ 37 (.call (.func 68) [(t_ 33), (t_ 34), (t_ 35), (t_ 36)]))])
 (.ret))
 (.skip)))
 (.seq (.seq (.region false [(q_ 38 (.move (t_ 10))),
 (q_ 39 (.un .not (t_ 38)))])
 (.cond (t_ 39)
 (.seq (.region false [(q_ 40 (.move (t_ 0))),
 (q_ 41 (.move (t_ 1))),
 (q_ 42 (.move (t_ 2))),
 (q_ 43 (.move (t_ 4))),
 (q_ 44 (.call (.func 69) [(t_ 40), (t_ 41), (t_ 42), (t_ 43)]))])
 (.region false [(q_ 45 (.move (t_ 3))),
 (q_ 46 (.bin .sub 3 (t_ 45) (k_ 1))),
 (q_ 3 (.move (t_ 46)))]))
 (.skip)))
 (.seq (.region false [(q_ 48 (.move (t_ 0))),
 (q_ 49 (.move (t_ 1))),
 (q_ 50 (.move (t_ 2))),
 (q_ 51 (.move (t_ 4))),
 (q_ 52 (.call (.func 70) [(t_ 48), (t_ 49), (t_ 50), (t_ 51)])),
 (q_ 47 (.move (t_ 52))),
 (q_ 53 (.extract (t_ 47) 0)),
 (q_ 54 (.extract (t_ 47) 1)),
 (q_ 13 (.move (t_ 53))),
 (q_ 14 (.move (t_ 54)))])
 (.seq (.seq (.region false [(q_ 55 (.move (t_ 14))),
 (q_ 56 (.bin .eql 122 (t_ 55) (k_ 2)))])
 (.cond (t_ 56)
 (.seq (.region false [(q_ 57 (.move (t_ 0))),
 (q_ 58 (.move (t_ 1))),
 (q_ 59 (.move (t_ 2))),
 (q_ 60 (.move (t_ 4))),
 (q_ 61 (.call (.func 71) [(t_ 57), (t_ 58), (t_ 59), (t_ 60)]))])
 (.seq (.region false [(q_ 62 (.move (t_ 2))),
 (q_ 63 (.bin .sub 3 (t_ 62) (k_ 1))),
 (q_ 64 (.move (t_ 13))),
 (q_ 65 (.move (t_ 1))),
 (q_ 66 (.bin .sub 3 (t_ 64) (t_ 65))),
 (q_ 67 (.bin .sub 3 (t_ 63) (t_ 66))),
 (q_ 13 (.move (t_ 67)))])
 (.region false [(q_ 14 (.move (k_ 1)))])))
 (.skip)))
 (.seq (.seq (.region false ((q_ 68 (.move (t_ 10))) :: (q_ 69 (.move (t_ 68))) :: (ac38_G1 ++ ((q_ 72 (.move (t_ 71))) :: (ac38_G2 ++ [])))))
 (.cond (t_ 75)
 (.seq (.region false [(q_ 76 (.move (t_ 0))),
 (q_ 77 (.move (t_ 1))),
 (q_ 78 (.move (t_ 2))),
 (q_ 79 (.move (t_ 4))),
 (q_ 80 (.call (.func 72) [(t_ 76), (t_ 77), (t_ 78), (t_ 79)]))])
 (.cond (t_ 80)
 (.ret)
 (.skip)))
 (.skip)))
 (.seq (.seq (.region true ((q_ 81 (.move (t_ 1))) :: (q_ 82 (.bin .gtr 3 (t_ 81) (k_ 0))) :: (q_ 83 (.move (t_ 82))) :: (ac38_G3 ++ [])))
 (.cond (t_ 97)
 (.seq (.region false [(q_ 98 (.move (t_ 0))),
 (q_ 99 (.move (t_ 1))),
 (q_ 100 (.move (t_ 2))),
 (q_ 101 (.move (t_ 13))),
 (q_ 102 (.move (t_ 4))),
 (q_ 103 (.call (.func 73) [(t_ 98), (t_ 99), (t_ 100), (t_ 101), (t_ 102)])),
 (q_ 15 (.move (t_ 103)))])
 (.seq (.region false [(q_ 104 (.move (t_ 15))),
 (q_ 1 (.move (t_ 104)))])
 (.exit 1)))
 (.skip)))
 (.seq (.region false [(q_ 106 (.move (t_ 0))),
 (q_ 107 (.move (t_ 1))),
 (q_ 108 (.move (t_ 2))),
 (q_ 109 (.move (t_ 13))),
 (q_ 110 (.move (t_ 4))),
 (q_ 111 (.call (.func 74) [(t_ 106), (t_ 107), (t_ 108), (t_ 109), (t_ 110)])),
 (q_ 105 (.move (t_ 111))),
 (q_ 112 (.extract (t_ 105) 0)),
 (q_ 113 (.extract (t_ 105) 1)),
 (q_ 16 (.move (t_ 112))),
 (q_ 17 (.move (t_ 113)))])
 (.seq (.region false [(q_ 114 (.move (t_ 17))),
 (q_ 11 (.move (t_ 114)))])
 (.seq (.region false [(q_ 115 (.move (t_ 16))),
 (q_ 116 (.move (t_ 1))),
 (q_ 117 (.bin .sub 3 (t_ 115) (t_ 116))),
 (q_ 118 (.move (t_ 2))),
 (q_ 119 (.move (t_ 16))),
 (q_ 120 (.bin .sub 3 (t_ 118) (t_ 119))),
 (q_ 18 (.move (t_ 117))),
 (q_ 19 (.move (t_ 120)))])
 (.seq (.region false [(q_ 121 (.move (t_ 12))),
 (q_ 122 (.bin .quo 3 (t_ 121) (k_ 8))),
 (q_ 20 (.move (t_ 122)))])
 (.seq (.region false [(q_ 123 (.move (t_ 18))),
 (q_ 124 (.move (t_ 19))),
 (q_ 125 (.bin .lss 3 (t_ 123) (t_ 124)))])
 (.cond (t_ 125)
 (.seq (.region false [(q_ 126 (.move (t_ 18))),
 (q_ 127 (.move (t_ 20))),
 (q_ 128 (.bin .geq 3 (t_ 126) (t_ 127))),
 (q_ 10 (.move (t_ 128)))])
 (.seq (.region false [(q_ 129 (.move (t_ 0))),
 (q_ 130 (.move (t_ 1))),
 (q_ 131 (.move (t_ 16))),
 (q_ 132 (.move (t_ 3))),
 (q_ 133 (.move (t_ 4))),
 (q_ 134 (.call (.func 38) [(t_ 129), (t_ 130), (t_ 131), (t_ 132), (t_ 133)]))])
 (.region false [(q_ 135 (.move (t_ 16))),
 (q_ 136 (.bin .add 3 (t_ 135) (k_ 1))),
 (q_ 1 (.move (t_ 136)))])))
 (.seq (.region false [(q_ 137 (.move (t_ 19))),
 (q_ 138 (.move (t_ 20))),
 (q_ 139 (.bin .geq 3 (t_ 137) (t_ 138))),
 (q_ 10 (.move (t_ 139)))])
 (.seq (.region false [(q_ 140 (.move (t_ 0))),
 (q_ 141 (.move (t_ 16))),
 (q_ 142 (.bin .add 3 (t_ 141) (k_ 1))),
 (q_ 143 (.move (t_ 2))),
 (q_ 144 (.move (t_ 3))),
 (q_ 145 (.move (t_ 4))),
 (q_ 146 (.call (.func 38) [(t_ 140), (t_ 142), (t_ 143), (t_ 144), (t_ 145)]))])
 (.region false [(q_ 147 (.move (t_ 16))),
 (q_ 2 (.move (t_ 147)))])))))))))))))))))
/-- slices.pdqsortCmpFunc[patchbay/api.FieldRef] -/
def ac38 : AC :=
 .seq (.region false [(q_ 10 (.move (.const (.bool true))))])
 (.seq (.region false [(q_ 11 (.move (.const (.bool true))))])
 (.block 0 (.loop ac38_L1)))
theorem text38 : FnText Tryz.prog 38 [] 148 5 ac38 [] :=
 ⟨Tryz.call38, follows, Tryz.f38, _, Tryz.func38, rfl, rfl, by decide, by kernel_rfl, by kernel_rfl⟩

def ac67_G1 : List AOper :=
 [⟨(some 22), .move (t_ 3), (some (21, true)), false⟩,
 ⟨(some 23), .move (t_ 0), (some (21, true)), false⟩,
 ⟨(some 24), .move (t_ 9), (some (21, true)), false⟩,
 ⟨(some 25), .iaddr 2 (t_ 23) (t_ 24), (some (21, true)), false⟩,
 ⟨(some 26), .load 2 true (t_ 25), (some (21, true)), false⟩,
 ⟨(some 27), .move (t_ 0), (some (21, true)), false⟩,
 ⟨(some 28), .move (t_ 9), (some (21, true)), false⟩,
 ⟨(some 29), .bin .sub 3 (t_ 28) (k_ 1), (some (21, true)), false⟩,
 ⟨(some 30), .iaddr 2 (t_ 27) (t_ 29), (some (21, true)), false⟩,
 ⟨(some 31), .load 2 true (t_ 30), (some (21, true)), false⟩,
 ⟨(some 32), .call (t_ 22) [(t_ 26), (t_ 31)], (some (21, true)), false⟩,
 ⟨(some 33), .bin .lss 3 (t_ 32) (k_ 0), (some (21, true)), false⟩,
 (q_ 34 (.pick (t_ 21) (t_ 33) (.const (.bool false))))]
def ac67_L2 : AC :=
 .seq (.seq (.region true ((q_ 18 (.move (t_ 9))) :: (q_ 19 (.move (t_ 1))) :: (q_ 20 (.bin .gtr 3 (t_ 18) (t_ 19))) :: (q_ 21 (.move (t_ 20))) :: (ac67_G1 ++ [])))
 (.cond (t_ 34)
 (.skip)
 (.exit 2)))
 (.seq (.block 3 (.region true [(q_ 37 (.move (t_ 0))),
 (q_ 38 (.move (t_ 9))),
 ⟨(some 39), .move (t_ 0), none, true⟩,
 ⟨(some 40), .move (t_ 9), none, true⟩,
 ⟨(some 41), .bin .sub 3 (t_ 40) (k_ 1), none, true⟩,
 (q_ 42 (.move (t_ 0))),
 (q_ 43 (.move (t_ 9))),
 (q_ 44 (.bin .sub 3 (t_ 43) (k_ 1))),
 (q_ 45 (.iaddr 2 (t_ 42) (t_ 44))),
 (q_ 46 (.load 2 true (t_ 45))),
 (q_ 47 (.move (t_ 0))),
 (q_ 48 (.move (t_ 9))),
 (q_ 49 (.iaddr 2 (t_ 47) (t_ 48))),
 (q_ 50 (.load 2 true (t_ 49))),
 (q_ 51 (.iaddr 2 (t_ 37) (t_ 38))),
 ⟨none, .store 2 (t_ 51) (t_ 46), none, false⟩,
 (q_ 52 (.iaddr 2 (t_ 39) (t_ 41))),
 ⟨none, .store 2 (t_ 52) (t_ 50), none, false⟩]))
 (.region false [(q_ 35 (.move (t_ 9))),
 (q_ 36 (.bin .sub 3 (t_ 35) (k_ 1))),
 (q_ 9 (.move (t_ 36)))]))
def ac67_L1 : AC :=
 .seq (.seq (.region false [(q_ 12 (.move (t_ 8))),
 (q_ 13 (.move (t_ 2))),
 (q_ 14 (.bin .lss 3 (t_ 12) (t_ 13)))])
 (.cond (t_ 14)
 (.skip)
 (.exit 0)))
 (.seq (.block 1 (.seq (.region false [(q_ 17 (.move (t_ 8))),
 (q_ 9 (.move (t_ 17)))])
 (.block 2 (.loop ac67_L2))))
 (.region false [(q_ 15 (.move (t_ 8))),
 (q_ 16 (.bin .add 3 (t_ 15) (k_ 1))),
 (q_ 8 (.move (t_ 16)))]))
/-- slices.insertionSortCmpFunc[patchbay/api.FieldRef] -/
def ac67 : AC :=
 .seq (.region false [(q_ 10 (.move (t_ 1))),
 (q_ 11 (.bin .add 3 (t_ 10) (k_ 1))),
 (q_ 8 (.move (t_ 11)))])
 (.block 0 (.loop ac67_L1))
theorem text67 : FnText Tryz.prog 67 [] 53 4 ac67 [] :=
 ⟨Tryz.call67, follows, Tryz.f67, _, Tryz.func67, rfl, rfl, by decide, by kernel_rfl, by kernel_rfl⟩

def ac68_L1 : AC :=
 .seq (.seq (.region false [(q_ 20 (.move (t_ 11))),
 (q_ 21 (.bin .geq 3 (t_ 20) (k_ 0)))])
 (.cond (t_ 21)
 (.skip)
 (.exit 0)))
 (.seq (.block 1 (.region false [(q_ 24 (.move (t_ 0))),
 (q_ 25 (.move (t_ 11))),
 (q_ 26 (.move (t_ 10))),
 (q_ 27 (.move (t_ 8))),
 (q_ 28 (.move (t_ 3))),
 (q_ 29 (.call (.func 91) [(t_ 24), (t_ 25), (t_ 26), (t_ 27), (t_ 28)]))]))
 (.region false [(q_ 22 (.move (t_ 11))),
 (q_ 23 (.bin .sub 3 (t_ 22) (k_ 1))),
 (q_ 11 (.move (t_ 23)))]))
def ac68_L2 : AC :=
 .seq (.seq (.region false [(q_ 32 (.move (t_ 12))),
 (q_ 33 (.bin .geq 3 (t_ 32) (k_ 0)))])
 (.cond (t_ 33)
 (.skip)
 (.exit 2)))
 (.seq (.block 3 (.seq (.region true [(q_ 36 (.move (t_ 0))),
 (q_ 37 (.move (t_ 8))),
 ⟨(some 38), .move (t_ 0), none, true⟩,
 ⟨(some 39), .move (t_ 8), none, true⟩,
 ⟨(some 40), .move (t_ 12), none, true⟩,
 ⟨(some 41), .bin .add 3 (t_ 39) (t_ 40), none, true⟩,
 (q_ 42 (.move (t_ 0))),
 (q_ 43 (.move (t_ 8))),
 (q_ 44 (.move (t_ 12))),
 (q_ 45 (.bin .add 3 (t_ 43) (t_ 44))),
 (q_ 46 (.iaddr 2 (t_ 42) (t_ 45))),
 (q_ 47 (.load 2 true (t_ 46))),
 (q_ 48 (.move (t_ 0))),
 (q_ 49 (.move (t_ 8))),
 (q_ 50 (.iaddr 2 (t_ 48) (t_ 49))),
 (q_ 51 (.load 2 true (t_ 50))),
 (q_ 52 (.iaddr 2 (t_ 36) (t_ 37))),
 ⟨none, .store 2 (t_ 52) (t_ 47), none, false⟩,
 (q_ 53 (.iaddr 2 (t_ 38) (t_ 41))),
 ⟨none, .store 2 (t_ 53) (t_ 51), none, false⟩])
 (.region false [(q_ 54 (.move (t_ 0))),
 (q_ 55 (.move (t_ 9))),
 (q_ 56 (.move (t_ 12))),
 (q_ 57 (.move (t_ 8))),
 (q_ 58 (.move (t_ 3))),
 (q_ 59 (.call (.func 91) [(t_ 54), (t_ 55), (t_ 56), (t_ 57), (t_ 58)]))])))
 (.region false [(q_ 34 (.move (t_ 12))),
 (q_ 35 (.bin .sub 3 (t_ 34) (k_ 1))),
 (q_ 12 (.move (t_ 35)))]))
/-- slices.heapSortCmpFunc[patchbay/api.FieldRef] -/
def ac68 : AC :=
 .seq (.region false [(q_ 13 (.move (t_ 1))),
 (q_ 8 (.move (t_ 13)))])
 (.seq (.region false [(q_ 9 (.move (k_ 0)))])
 (.seq (.region false [(q_ 14 (.move (t_ 2))),
 (q_ 15 (.move (t_ 1))),
 (q_ 16 (.bin .sub 3 (t_ 14) (t_ 15))),
 (q_ 10 (.move (t_ 16)))])
 (.seq (.seq (.region false [(q_ 17 (.move (t_ 10))),
 (q_ 18 (.bin .sub 3 (t_ 17) (k_ 1))),
 (q_ 19 (.bin .quo 3 (t_ 18) (k_ 2))),
 (q_ 11 (.move (t_ 19)))])
 (.block 0 (.loop ac68_L1)))
 (.seq (.region false [(q_ 30 (.move (t_ 10))),
 (q_ 31 (.bin .sub 3 (t_ 30) (k_ 1))),
 (q_ 12 (.move (t_ 31)))])
 (.block 2 (.loop ac68_L2))))))
theorem text68 : FnText Tryz.prog 68 [] 60 4 ac68 [] :=
 ⟨Tryz.call68, follows, Tryz.f68, _, Tryz.func68, rfl, rfl, by decide, by kernel_rfl, by kernel_rfl⟩

def ac91_G1 : List AOper :=
 [⟨(some 24), .move (t_ 4), (some (23, true)), false⟩,
 ⟨(some 25), .move (t_ 0), (some (23, true)), false⟩,
 ⟨(some 26), .move (t_ 3), (some (23, true)), false⟩,
 ⟨(some 27), .move (t_ 11), (some (23, true)), false⟩,
 ⟨(some 28), .bin .add 3 (t_ 26) (t_ 27), (some (23, true)), false⟩,
 ⟨(some 29), .iaddr 2 (t_ 25) (t_ 28), (some (23, true)), false⟩,
 ⟨(some 30), .load 2 true (t_ 29), (some (23, true)), false⟩,
 ⟨(some 31), .move (t_ 0), (some (23, true)), false⟩,
 ⟨(some 32), .move (t_ 3), (some (23, true)), false⟩,
 ⟨(some 33), .move (t_ 11), (some (23, true)), false⟩,
 ⟨(some 34), .bin .add 3 (t_ 32) (t_ 33), (some (23, true)), false⟩,
 ⟨(some 35), .bin .add 3 (t_ 34) (k_ 1), (some (23, true)), false⟩,
 ⟨(some 36), .iaddr 2 (t_ 31) (t_ 35), (some (23, true)), false⟩,
 ⟨(some 37), .load 2 true (t_ 36), (some (23, true)), false⟩,
 ⟨(some 38), .call (t_ 24) [(t_ 30), (t_ 37)], (some (23, true)), false⟩,
 ⟨(some 39), .bin .lss 3 (t_ 38) (k_ 0), (some (23, true)), false⟩,
 (q_ 40 (.pick (t_ 23) (t_ 39) (.const (.bool false))))]
def ac91_L1 : AC :=
 .block 1 (.seq (.region false [(q_ 13 (.move (t_ 10))),
 (q_ 14 (.bin .mul 3 (k_ 2) (t_ 13))),
 (q_ 15 (.bin .add 3 (t_ 14) (k_ 1))),
 (q_ 11 (.move (t_ 15)))])
 (.seq (.seq (.region false [(q_ 16 (.move (t_ 11))),
 (q_ 17 (.move (t_ 2))),
 (q_ 18 (.bin .geq 3 (t_ 16) (t_ 17)))])
 (.cond (t_ 18)
 (.exit 0)
 (.skip)))
 (.seq (.seq (.region true ((q_ 19 (.move (t_ 11))) :: (q_ 20 (.bin .add 3 (t_ 19) (k_ 1))) :: (q_ 21 (.move (t_ 2))) :: (q_ 22 (.bin .lss 3 (t_ 20) (t_ 21))) :: (q_ 23 (.move (t_ 22))) :: (ac91_G1 ++ [])))
 (.cond (t_ 40)
 (.region false [(q_ 41 (.move (t_ 11))),
 (q_ 42 (.bin .add 3 (t_ 41) (k_ 1))),
 (q_ 11 (.move (t_ 42)))])
 (.skip)))
 (.seq (.seq (.region true [(q_ 43 (.move (t_ 4))),
 (q_ 44 (.move (t_ 0))),
 (q_ 45 (.move (t_ 3))),
 (q_ 46 (.move (t_ 10))),
 (q_ 47 (.bin .add 3 (t_ 45) (t_ 46))),
 (q_ 48 (.iaddr 2 (t_ 44) (t_ 47))),
 (q_ 49 (.load 2 true (t_ 48))),
 (q_ 50 (.move (t_ 0))),
 (q_ 51 (.move (t_ 3))),
 (q_ 52 (.move (t_ 11))),
 (q_ 53 (.bin .add 3 (t_ 51) (t_ 52))),
 (q_ 54 (.iaddr 2 (t_ 50) (t_ 53))),
 (q_ 55 (.load 2 true (t_ 54))),
 (q_ 56 (.call (t_ 43) [(t_ 49), (t_ 55)])),
 (q_ 57 (.bin .lss 3 (t_ 56) (k_ 0))),
 (q_ 58 (.un .not (t_ 57)))])
 (.cond (t_ 58)
 (.ret)
 (.skip)))
 (.seq (.region true [(q_ 59 (.move (t_ 0))),
 (q_ 60 (.move (t_ 3))),
 (q_ 61 (.move (t_ 10))),
 (q_ 62 (.bin .add 3 (t_ 60) (t_ 61))),
 ⟨(some 63), .move (t_ 0), none, true⟩,
 ⟨(some 64), .move (t_ 3), none, true⟩,
 ⟨(some 65), .move (t_ 11), none, true⟩,
 ⟨(some 66), .bin .add 3 (t_ 64) (t_ 65), none, true⟩,
 (q_ 67 (.move (t_ 0))),
 (q_ 68 (.move (t_ 3))),
 (q_ 69 (.move (t_ 11))),
 (q_ 70 (.bin .add 3 (t_ 68) (t_ 69))),
 (q_ 71 (.iaddr 2 (t_ 67) (t_ 70))),
 (q_ 72 (.load 2 true (t_ 71))),
 (q_ 73 (.move (t_ 0))),
 (q_ 74 (.move (t_ 3))),
 (q_ 75 (.move (t_ 10))),
 (q_ 76 (.bin .add 3 (t_ 74) (t_ 75))),
 (q_ 77 (.iaddr 2 (t_ 73) (t_ 76))),
 (q_ 78 (.load 2 true (t_ 77))),
 (q_ 79 (.iaddr 2 (t_ 59) (t_ 62))),
 ⟨none, .store 2 (t_ 79) (t_ 72), none, false⟩,
 (q_ 80 (.iaddr 2 (t_ 63) (t_ 66))),
 ⟨none, .store 2 (t_ 80) (t_ 78), none, false⟩])
 (.region false [(q_ 81 (.move (t_ 11))),
 (q_ 10 (.move (t_ 81)))]))))))
/-- slices.siftDownCmpFunc[patchbay/api.FieldRef] -/
def ac91 : AC :=
 .seq (.region false [(q_ 12 (.move (t_ 1))),
 (q_ 10 (.move (t_ 12)))])
 (.block 0 (.loop ac91_L1))
theorem text91 : FnText Tryz.prog 91 [] 82 5 ac91 [] :=
 ⟨Tryz.call91, follows, Tryz.f91, _, Tryz.func91, rfl, rfl, by decide, by kernel_rfl, by kernel_rfl⟩

def ac69_L1 : AC :=
 .seq (.seq (.region false [(q_ 28 (.move (t_ 11))),
 (q_ 29 (.move (t_ 1))),
 (q_ 30 (.move (t_ 8))),
 (q_ 31 (.bin .quo 3 (t_ 30) (k_ 4))),
 (q_ 32 (.bin .mul 3 (t_ 31) (k_ 2))),
 (q_ 33 (.bin .add 3 (t_ 29) (t_ 32))),
 (q_ 34 (.bin .add 3 (t_ 33) (k_ 1))),
 (q_ 35 (.bin .leq 3 (t_ 28) (t_ 34)))])
 (.cond (t_ 35)
 (.skip)
 (.exit 0)))
 (.seq (.block 1 (.seq (.region false [(q_ 38 (.call (.func 93) [(t_ 9)])),
 (q_ 39 (.move (t_ 10))),
 (q_ 40 (.bin .sub 103 (t_ 39) (.const (.int .u64 1)))),
 (q_ 41 (.bin .and 103 (t_ 38) (t_ 40))),
 (q_ 42 (.conv 103 3 (t_ 41))),
 (q_ 12 (.move (t_ 42)))])
 (.seq (.seq (.region false [(q_ 43 (.move (t_ 12))),
 (q_ 44 (.move (t_ 8))),
 (q_ 45 (.bin .geq 3 (t_ 43) (t_ 44)))])
 (.cond (t_ 45)
 (.region false [(q_ 46 (.move (t_ 12))),
 (q_ 47 (.move (t_ 8))),
 (q_ 48 (.bin .sub 3 (t_ 46) (t_ 47))),
 (q_ 12 (.move (t_ 48)))])
 (.skip)))
 (.region true [(q_ 49 (.move (t_ 0))),
 (q_ 50 (.move (t_ 11))),
 ⟨(some 51), .move (t_ 0), none, true⟩,
 ⟨(some 52), .move (t_ 1), none, true⟩,
 ⟨(some 53), .move (t_ 12), none, true⟩,
 ⟨(some 54), .bin .add 3 (t_ 52) (t_ 53), none, true⟩,
 (q_ 55 (.move (t_ 0))),
 (q_ 56 (.move (t_ 1))),
 (q_ 57 (.move (t_ 12))),
 (q_ 58 (.bin .add 3 (t_ 56) (t_ 57))),
 (q_ 59 (.iaddr 2 (t_ 55) (t_ 58))),
 (q_ 60 (.load 2 true (t_ 59))),
 (q_ 61 (.move (t_ 0))),
 (q_ 62 (.move (t_ 11))),
 (q_ 63 (.iaddr 2 (t_ 61) (t_ 62))),
 (q_ 64 (.load 2 true (t_ 63))),
 (q_ 65 (.iaddr 2 (t_ 49) (t_ 50))),
 ⟨none, .store 2 (t_ 65) (t_ 60), none, false⟩,
 (q_ 66 (.iaddr 2 (t_ 51) (t_ 54))),
 ⟨none, .store 2 (t_ 66) (t_ 64), none, false⟩]))))
 (.region false [(q_ 36 (.move (t_ 11))),
 (q_ 37 (.bin .add 3 (t_ 36) (k_ 1))),
 (q_ 11 (.move (t_ 37)))]))
/-- slices.breakPatternsCmpFunc[patchbay/api.FieldRef] -/
def ac69 : AC :=
 .seq (.region false [(q_ 13 (.move (t_ 2))),
 (q_ 14 (.move (t_ 1))),
 (q_ 15 (.bin .sub 3 (t_ 13) (t_ 14))),
 (q_ 8 (.move (t_ 15)))])
 (.seq (.region false [(q_ 16 (.move (t_ 8))),
 (q_ 17 (.bin .geq 3 (t_ 16) (k_ 8)))])
 (.cond (t_ 17)
 (.seq (.region false [(q_ 18 (.move (t_ 8))),
 (q_ 19 (.conv 3 141 (t_ 18))),
 (q_ 9 (.alloc true 141 (.int .u64 0))),
 ⟨none, .store 1 (t_ 9) (t_ 19), none, false⟩])
 (.seq (.region false [(q_ 20 (.move (t_ 8))),
 (q_ 21 (.call (.func 92) [(t_ 20)])),
 (q_ 10 (.move (t_ 21)))])
 (.seq (.region false [(q_ 22 (.move (t_ 1))),
 (q_ 23 (.move (t_ 8))),
 (q_ 24 (.bin .quo 3 (t_ 23) (k_ 4))),
 (q_ 25 (.bin .mul 3 (t_ 24) (k_ 2))),
 (q_ 26 (.bin .add 3 (t_ 22) (t_ 25))),
 (q_ 27 (.bin .sub 3 (t_ 26) (k_ 1))),
 (q_ 11 (.move (t_ 27)))])
 (.block 0 (.loop ac69_L1)))))
 (.skip)))
theorem text69 : FnText Tryz.prog 69 [9] 67 4 ac69 [] :=
 ⟨Tryz.call69, follows, Tryz.f69, _, Tryz.func69, rfl, rfl, by decide, by kernel_rfl, by kernel_rfl⟩


/-- slices.nextPowerOfTwo -/
def ac92 : AC :=
 .seq (.region false [(q_ 2 (.move (.const (.int .u64 0))))])
 (.seq (.region false [(q_ 3 (.move (t_ 0))),
 (q_ 4 (.conv 3 103 (t_ 3))),
 (q_ 5 (.call (.func 39) [(t_ 4)])),
 (q_ 6 (.bin .shl 103 (.const (.int .u64 1)) (t_ 5))),
 (q_ 2 (.move (t_ 6)))])
 (.ret))
theorem text92 : FnText Tryz.prog 92 [] 7 1 ac92 [(2, none)] :=
 ⟨Tryz.call92, follows, Tryz.f92, _, Tryz.func92, rfl, rfl, by decide, by kernel_rfl, by kernel_rfl⟩


/-- (*slices.xorshift).Next -/
def ac93 : AC :=
 .seq (.region false [(q_ 2 (.move (.const (.int .u64 0))))])
 (.seq (.region true [(q_ 3 (.move (t_ 0))),
 (q_ 4 (.nilCheck (t_ 3))),
 (q_ 5 (.load 1 false (t_ 4))),
 (q_ 6 (.move (t_ 0))),
 (q_ 7 (.nilCheck (t_ 6))),
 (q_ 8 (.load 1 false (t_ 7))),
 (q_ 9 (.bin .shl 141 (t_ 8) (.const (.int .u64 13)))),
 (q_ 10 (.bin .xor 141 (t_ 5) (t_ 9))),
 (q_ 11 (.nilCheck (t_ 3))),
 ⟨none, .store 1 (t_ 11) (t_ 10), none, false⟩])
 (.seq (.region true [(q_ 12 (.move (t_ 0))),
 (q_ 13 (.nilCheck (t_ 12))),
 (q_ 14 (.load 1 false (t_ 13))),
 (q_ 15 (.move (t_ 0))),
 (q_ 16 (.nilCheck (t_ 15))),
 (q_ 17 (.load 1 false (t_ 16))),
 (q_ 18 (.bin .shr 141 (t_ 17) (.const (.int .u64 7)))),
 (q_ 19 (.bin .xor 141 (t_ 14) (t_ 18))),
 (q_ 20 (.nilCheck (t_ 12))),
 ⟨none, .store 1 (t_ 20) (t_ 19), none, false⟩])
 (.seq (.region true [(q_ 21 (.move (t_ 0))),
 (q_ 22 (.nilCheck (t_ 21))),
 (q_ 23 (.load 1 false (t_ 22))),
 (q_ 24 (.move (t_ 0))),
 (q_ 25 (.nilCheck (t_ 24))),
 (q_ 26 (.load 1 false (t_ 25))),
 (q_ 27 (.bin .shl 141 (t_ 26) (.const (.int .u64 17)))),
 (q_ 28 (.bin .xor 141 (t_ 23) (t_ 27))),
 (q_ 29 (.nilCheck (t_ 21))),
 ⟨none, .store 1 (t_ 29) (t_ 28), none, false⟩])
 (.seq (.region false [(q_ 30 (.move (t_ 0))),
 (q_ 31 (.nilCheck (t_ 30))),
 (q_ 32 (.load 1 false (t_ 31))),
 (q_ 2 (.move (t_ 32)))])
 (.ret)))))
theorem text93 : FnText Tryz.prog 93 [] 33 1 ac93 [(2, none)] :=
 ⟨Tryz.call93, follows, Tryz.f93, _, Tryz.func93, rfl, rfl, by decide, by kernel_rfl, by kernel_rfl⟩

end Go.Proofs.YtfekghenlhoamaaGreat
