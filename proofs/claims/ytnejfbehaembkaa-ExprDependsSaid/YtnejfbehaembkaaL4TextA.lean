/-
 The text of each function of this seat, as the plain library tells it; each by the kernel's own reckoning from the program.
-/
import Derived.Test.YtnejfbehaembkaaPbWp
import Derived.Test.YtnejfbehaembkaaRows
set_option linter.unusedVariables false
set_option maxRecDepth 100000
namespace Go.Proofs.Ytnejfbehaembkaa
open Go Go.Pb
abbrev q_ (d : Nat) (o : AOp) : AOper := ⟨some d, o, none, false⟩
abbrev t_ (n : Nat) : Operand := .tmp n
abbrev k_ (i : Int) : Operand := .const (.int .i64 i)
theorem follows : Try.prog.follows .mixedOrders = true := by kernel_rfl
def ac5_G1 : List AOper :=
 [⟨(some 87), .move (t_ 7), (some (86, false)), false⟩,
 ⟨(some 88), .bin .neq 42 (t_ 87) (k_ 0), (some (86, false)), false⟩,
 (q_ 89 (.pick (t_ 86) (.const (.bool true)) (t_ 88)))]
def ac5_G2 : List AOper :=
 [⟨(some 91), .move (t_ 8), (some (90, false)), false⟩,
 ⟨(some 92), .bin .neq 3 (t_ 91) (k_ 12), (some (90, false)), false⟩,
 (q_ 93 (.pick (t_ 90) (.const (.bool true)) (t_ 92)))]
def ac5_G3 : List AOper :=
 [⟨(some 95), .move (t_ 9), (some (94, false)), false⟩,
 ⟨(some 96), .bin .neq 42 (t_ 95) (k_ 0), (some (94, false)), false⟩,
 (q_ 97 (.pick (t_ 94) (.const (.bool true)) (t_ 96)))]
def ac5_G4 : List AOper :=
 [⟨(some 99), .move (t_ 11), (some (98, false)), false⟩,
 ⟨(some 100), .bin .neq 42 (t_ 99) (k_ 10), (some (98, false)), false⟩,
 (q_ 101 (.pick (t_ 98) (.const (.bool true)) (t_ 100)))]
def ac5_G5 : List AOper :=
 [⟨(some 103), .move (t_ 13), (some (102, false)), false⟩,
 ⟨(some 104), .bin .neq 42 (t_ 103) (k_ 3), (some (102, false)), false⟩,
 (q_ 105 (.pick (t_ 102) (.const (.bool true)) (t_ 104)))]
def ac5_G6 : List AOper :=
 [⟨(some 107), .move (t_ 15), (some (106, false)), false⟩,
 ⟨(some 108), .bin .neq 42 (t_ 107) (k_ 4), (some (106, false)), false⟩,
 (q_ 109 (.pick (t_ 106) (.const (.bool true)) (t_ 108)))]
def ac5_G7 : List AOper :=
 [⟨(some 116), .move (t_ 4), (some (115, true)), false⟩,
 ⟨(some 117), .load 10 true (t_ 2), (some (115, true)), false⟩,
 ⟨(some 118), .load 4 true (t_ 16), (some (115, true)), false⟩,
 ⟨(some 119), .call (.func 19) [(t_ 116), (t_ 117), (t_ 118), (.const (.slice none 0 0))], (some (115, true)), false⟩,
 ⟨(some 120), .bin .eql 57 (t_ 119) (.const (.int .u32 1289)), (some (115, true)), false⟩,
 (q_ 121 (.pick (t_ 115) (t_ 120) (.const (.bool false))))]
def ac5_G8 : List AOper :=
 [⟨(some 123), .move (t_ 5), (some (122, true)), false⟩,
 ⟨(some 124), .load 10 true (t_ 2), (some (122, true)), false⟩,
 ⟨(some 125), .load 4 true (t_ 16), (some (122, true)), false⟩,
 ⟨(some 126), .call (.func 19) [(t_ 123), (t_ 124), (t_ 125), (.const (.slice none 0 0))], (some (122, true)), false⟩,
 ⟨(some 127), .bin .eql 57 (t_ 126) (.const (.int .u32 33)), (some (122, true)), false⟩,
 (q_ 128 (.pick (t_ 122) (t_ 127) (.const (.bool false))))]
def ac5_G9 : List AOper :=
 [⟨(some 130), .move (t_ 5), (some (129, true)), false⟩,
 ⟨(some 131), .load 10 true (t_ 2), (some (129, true)), false⟩,
 ⟨(some 132), .load 4 true (t_ 17), (some (129, true)), false⟩,
 ⟨(some 133), .call (.func 19) [(t_ 130), (t_ 131), (t_ 132), (.const (.slice none 0 0))], (some (129, true)), false⟩,
 ⟨(some 134), .bin .eql 57 (t_ 133) (.const (.int .u32 7)), (some (129, true)), false⟩,
 (q_ 135 (.pick (t_ 129) (t_ 134) (.const (.bool false))))]
def ac5_G10 : List AOper :=
 [⟨(some 137), .call (.func 20) [(k_ 1)], (some (136, true)), false⟩,
 ⟨(some 138), .call (.func 20) [(k_ 1)], (some (136, true)), false⟩,
 ⟨(some 139), .bslice false 69 3 false [(t_ 137), (t_ 138)], (some (136, true)), false⟩,
 ⟨(some 140), .call (.func 9) [(t_ 139), (k_ 0)], (some (136, true)), false⟩,
 ⟨(some 141), .bin .eql 3 (t_ 140) (k_ 1), (some (136, true)), false⟩,
 (q_ 142 (.pick (t_ 136) (t_ 141) (.const (.bool false))))]
def ac5_G11 : List AOper :=
 [⟨(some 144), .move (t_ 5), (some (143, true)), false⟩,
 ⟨(some 145), .call (.func 12) [(t_ 144)], (some (143, true)), false⟩,
 ⟨(some 146), .build [(.int .i64 0), (.int .i64 0)] [], (some (143, true)), false⟩,
 ⟨(some 147), .bslice false 60 2 false [(t_ 146)], (some (143, true)), false⟩,
 ⟨(some 148), .call (.func 11) [(t_ 145), (t_ 147)], (some (143, true)), false⟩,
 (q_ 149 (.pick (t_ 143) (t_ 148) (.const (.bool false))))]
def ac5_G12 : List AOper :=
 [⟨(some 151), .move (t_ 5), (some (150, true)), false⟩,
 ⟨(some 152), .call (.func 15) [(t_ 151)], (some (150, true)), false⟩,
 ⟨(some 153), .bslice false 3 1 false [(k_ 0)], (some (150, true)), false⟩,
 ⟨(some 154), .call (.func 14) [(t_ 152), (t_ 153)], (some (150, true)), false⟩,
 (q_ 155 (.pick (t_ 150) (t_ 154) (.const (.bool false))))]
/-- patchbay/patchbaylaw13.awake -/
def ac5 : AC :=
 .seq (.region false [(q_ 0 (.move (.const (.bool false))))])
 (.seq (.region false [⟨(some 18), .build [(.string ⟨[].toArray⟩), (.int .i64 0)] [(0, 1, (.const (.string ⟨[102].toArray⟩))), (1, 1, (k_ 8))], none, false⟩,
 (q_ 19 (.bslice false 65 2 false [(t_ 18)])),
 ⟨(some 20), .build [(.string ⟨[].toArray⟩), (.slice none 0 0)] [(0, 1, (.const (.string ⟨[104].toArray⟩))), (1, 1, (t_ 19))], none, false⟩,
 (q_ 21 (.bslice false 67 2 false [(t_ 20)])),
 ⟨(some 22), .build [(.string ⟨[].toArray⟩), (.slice none 0 0), (.slice none 0 0), (.slice none 0 0), (.slice none 0 0), (.slice none 0 0), (.slice none 0 0), (.slice none 0 0), (.slice none 0 0)] [(1, 1, (t_ 21))], none, false⟩,
 ⟨(some 1), .alloc true 31 (.agg [(.string ⟨[].toArray⟩), (.slice none 0 0), (.slice none 0 0), (.slice none 0 0), (.slice none 0 0), (.slice none 0 0), (.slice none 0 0), (.slice none 0 0), (.slice none 0 0)].toArray), none, false⟩,
 ⟨none, .store 9 (t_ 1) (t_ 22), none, false⟩])
 (.seq (.region false [(q_ 23 (.load 9 true (t_ 1))),
 ⟨(some 24), .build [(.string ⟨[].toArray⟩), (.int .i64 0)] [(0, 1, (.const (.string ⟨[118].toArray⟩))), (1, 1, (k_ 4))], none, false⟩,
 (q_ 25 (.bslice false 65 2 false [(t_ 24)])),
 ⟨(some 26), .build [(.string ⟨[].toArray⟩), (.slice none 0 0), (.slice none 0 0), (.slice none 0 0), (.slice none 0 0), (.slice none 0 0), (.slice none 0 0), (.slice none 0 0), (.slice none 0 0), (.slice none 0 0)] [(0, 9, (t_ 23)), (9, 1, (t_ 25))], none, false⟩,
 ⟨(some 2), .alloc true 46 (.agg [(.string ⟨[].toArray⟩), (.slice none 0 0), (.slice none 0 0), (.slice none 0 0), (.slice none 0 0), (.slice none 0 0), (.slice none 0 0), (.slice none 0 0), (.slice none 0 0), (.slice none 0 0)].toArray), none, false⟩,
 ⟨none, .store 10 (t_ 2) (t_ 26), none, false⟩])
 (.seq (.region false [(q_ 27 (.build [(.int .i64 0), (.int .i64 0), (.int .i64 0)] [(0, 1, (k_ 9))])),
 (q_ 28 (.call (.func 20) [(k_ 250)])),
 (q_ 29 (.call (.func 20) [(k_ 10)])),
 (q_ 30 (.bslice false 69 3 false [(t_ 27), (t_ 28), (t_ 29)])),
 (q_ 3 (.move (t_ 30)))])
 (.seq (.region false [(q_ 31 (.build [(.int .i64 0), (.int .i64 0), (.int .i64 0)] [(0, 1, (k_ 14))])),
 (q_ 32 (.build [(.int .i64 0), (.int .i64 0), (.int .i64 0)] [(0, 1, (k_ 1)), (1, 1, (k_ 5)), (2, 1, (k_ 4))])),
 (q_ 33 (.call (.func 20) [(k_ 9)])),
 (q_ 34 (.bslice false 69 3 false [(t_ 31), (t_ 32), (t_ 33)])),
 (q_ 4 (.move (t_ 34)))])
 (.seq (.region false [(q_ 35 (.build [(.int .i64 0), (.int .i64 0), (.int .i64 0)] [(0, 1, (k_ 17))])),
 (q_ 36 (.build [(.int .i64 0), (.int .i64 0), (.int .i64 0)] [(0, 1, (k_ 4))])),
 (q_ 37 (.build [(.int .i64 0), (.int .i64 0), (.int .i64 0)] [(0, 1, (k_ 2))])),
 (q_ 38 (.call (.func 20) [(k_ 7)])),
 (q_ 39 (.bslice false 69 3 false [(t_ 35), (t_ 36), (t_ 37), (t_ 38)])),
 (q_ 5 (.move (t_ 39)))])
 (.seq (.region false [(q_ 41 (.move (t_ 3))),
 (q_ 42 (.load 10 true (t_ 2))),
 (q_ 43 (.call (.func 6) [(t_ 41), (t_ 42)])),
 (q_ 40 (.move (t_ 43))),
 (q_ 44 (.extract (t_ 40) 0)),
 (q_ 45 (.extract (t_ 40) 1)),
 (q_ 6 (.move (t_ 44))),
 (q_ 7 (.move (t_ 45)))])
 (.seq (.region false [(q_ 47 (.move (t_ 4))),
 (q_ 48 (.load 10 true (t_ 2))),
 (q_ 49 (.call (.func 6) [(t_ 47), (t_ 48)])),
 (q_ 46 (.move (t_ 49))),
 (q_ 50 (.extract (t_ 46) 0)),
 (q_ 51 (.extract (t_ 46) 1)),
 (q_ 8 (.move (t_ 50))),
 (q_ 9 (.move (t_ 51)))])
 (.seq (.region true [(q_ 53 (.build [(.int .i64 0), (.int .i64 0), (.int .i64 0)] [(0, 1, (k_ 9))])),
 (q_ 54 (.call (.func 20) [(k_ 1)])),
 (q_ 55 (.build [(.int .i64 0), (.int .i64 0), (.int .i64 0)] [(0, 1, (k_ 3))])),
 (q_ 56 (.bslice false 69 3 false [(t_ 53), (t_ 54), (t_ 55)])),
 (q_ 57 (.load 10 true (t_ 2))),
 (q_ 58 (.call (.func 6) [(t_ 56), (t_ 57)])),
 (q_ 52 (.move (t_ 58))),
 (q_ 59 (.extract (t_ 52) 0)),
 (q_ 60 (.extract (t_ 52) 1)),
 (q_ 10 (.move (t_ 59))),
 (q_ 11 (.move (t_ 60)))])
 (.seq (.region true [(q_ 62 (.move (t_ 3))),
 (q_ 63 (.slice 32 3 (t_ 62) none (some (k_ 2)) none)),
 (q_ 64 (.load 10 true (t_ 2))),
 (q_ 65 (.call (.func 6) [(t_ 63), (t_ 64)])),
 (q_ 61 (.move (t_ 65))),
 (q_ 66 (.extract (t_ 61) 0)),
 (q_ 67 (.extract (t_ 61) 1)),
 (q_ 12 (.move (t_ 66))),
 (q_ 13 (.move (t_ 67)))])
 (.seq (.region true [(q_ 69 (.call (.func 20) [(k_ 1)])),
 (q_ 70 (.call (.func 20) [(k_ 1)])),
 (q_ 71 (.bslice false 69 3 false [(t_ 69), (t_ 70)])),
 (q_ 72 (.load 10 true (t_ 2))),
 (q_ 73 (.call (.func 6) [(t_ 71), (t_ 72)])),
 (q_ 68 (.move (t_ 73))),
 (q_ 74 (.extract (t_ 68) 0)),
 (q_ 75 (.extract (t_ 68) 1)),
 (q_ 14 (.move (t_ 74))),
 (q_ 15 (.move (t_ 75)))])
 (.seq (.region false [(q_ 76 (.bslice false 4 1 false [(.const (.bool true))])),
 (q_ 77 (.bslice false 57 1 false [(.const (.int .u32 33))])),
 (q_ 78 (.bslice false 35 1 false [(t_ 77)])),
 (q_ 79 (.build [(.slice none 0 0), (.slice none 0 0), (.slice none 0 0), (.slice none 0 0)] [(0, 1, (t_ 76)), (1, 1, (t_ 78))])),
 (q_ 16 (.alloc true 38 (.agg [(.slice none 0 0), (.slice none 0 0), (.slice none 0 0), (.slice none 0 0)].toArray))),
 ⟨none, .store 4 (t_ 16) (t_ 79), none, false⟩])
 (.seq (.region false [(q_ 80 (.bslice false 4 1 false [(.const (.bool false))])),
 (q_ 81 (.bslice false 57 1 false [(.const (.int .u32 0))])),
 (q_ 82 (.bslice false 35 1 false [(t_ 81)])),
 (q_ 83 (.build [(.slice none 0 0), (.slice none 0 0), (.slice none 0 0), (.slice none 0 0)] [(0, 1, (t_ 80)), (1, 1, (t_ 82))])),
 (q_ 17 (.alloc true 38 (.agg [(.slice none 0 0), (.slice none 0 0), (.slice none 0 0), (.slice none 0 0)].toArray))),
 ⟨none, .store 4 (t_ 17) (t_ 83), none, false⟩])
 (.seq (.seq (.region false ((q_ 84 (.move (t_ 6))) :: (q_ 85 (.bin .neq 3 (t_ 84) (k_ 8))) :: (q_ 86 (.move (t_ 85))) :: (ac5_G1 ++ ((q_ 90 (.move (t_ 89))) :: (ac5_G2 ++ ((q_ 94 (.move (t_ 93))) :: (ac5_G3 ++ ((q_ 98 (.move (t_ 97))) :: (ac5_G4 ++ ((q_ 102 (.move (t_ 101))) :: (ac5_G5 ++ ((q_ 106 (.move (t_ 105))) :: (ac5_G6 ++ [])))))))))))))
 (.cond (t_ 109)
 (.seq (.region false [(q_ 0 (.move (.const (.bool false))))])
 (.ret))
 (.skip)))
 (.seq (.region false ((q_ 110 (.move (t_ 3))) :: (q_ 111 (.load 10 true (t_ 2))) :: (q_ 112 (.load 4 true (t_ 16))) :: (q_ 113 (.call (.func 19) [(t_ 110), (t_ 111), (t_ 112), (.const (.slice none 0 0))])) :: (q_ 114 (.bin .eql 57 (t_ 113) (.const (.int .u32 4)))) :: (q_ 115 (.move (t_ 114))) :: (ac5_G7 ++ ((q_ 122 (.move (t_ 121))) :: (ac5_G8 ++ ((q_ 129 (.move (t_ 128))) :: (ac5_G9 ++ ((q_ 136 (.move (t_ 135))) :: (ac5_G10 ++ ((q_ 143 (.move (t_ 142))) :: (ac5_G11 ++ ((q_ 150 (.move (t_ 149))) :: (ac5_G12 ++ [(q_ 0 (.move (t_ 155)))])))))))))))))
 (.ret)))))))))))))))
theorem text5 : FnText Try.prog 5 [1, 2, 16, 17] 156 0 ac5 [(0, none)] :=
 ⟨Try.call5, follows, Try.f5, _, Try.func5, rfl, rfl, by decide, by kernel_rfl, by kernel_rfl⟩


/-- cmp.isNaN[int] -/
def ac43 : AC :=
 .seq (.region false [(q_ 2 (.move (.const (.bool false))))])
 (.seq (.region false [(q_ 3 (.move (t_ 0))),
 (q_ 4 (.move (t_ 0))),
 (q_ 5 (.bin .neq 3 (t_ 3) (t_ 4))),
 (q_ 2 (.move (t_ 5)))])
 (.ret))
theorem text43 : FnText Try.prog 43 [] 6 1 ac43 [(2, none)] :=
 ⟨Try.call43, follows, Try.f43, _, Try.func43, rfl, rfl, by decide, by kernel_rfl, by kernel_rfl⟩


/-- cmp.Compare[int] -/
def ac28 : AC :=
 .seq (.region false [(q_ 4 (.move (k_ 0)))])
 (.seq (.region false [(q_ 7 (.move (t_ 0))),
 (q_ 8 (.call (.func 43) [(t_ 7)])),
 (q_ 5 (.move (t_ 8)))])
 (.seq (.region false [(q_ 9 (.move (t_ 1))),
 (q_ 10 (.call (.func 43) [(t_ 9)])),
 (q_ 6 (.move (t_ 10)))])
 (.seq (.seq (.region false [(q_ 11 (.move (t_ 5)))])
 (.cond (t_ 11)
 (.seq (.seq (.region false [(q_ 12 (.move (t_ 6)))])
 (.cond (t_ 12)
 (.seq (.region false [(q_ 4 (.move (k_ 0)))])
 (.ret))
 (.skip)))
 (.seq (.region false [(q_ 4 (.move (.const (.int .i64 (-1)))))])
 (.ret)))
 (.skip)))
 (.seq (.seq (.region false [(q_ 13 (.move (t_ 6)))])
 (.cond (t_ 13)
 (.seq (.region false [(q_ 4 (.move (k_ 1)))])
 (.ret))
 (.skip)))
 (.seq (.seq (.region false [(q_ 14 (.move (t_ 0))),
 (q_ 15 (.move (t_ 1))),
 (q_ 16 (.bin .lss 3 (t_ 14) (t_ 15)))])
 (.cond (t_ 16)
 (.seq (.region false [(q_ 4 (.move (.const (.int .i64 (-1)))))])
 (.ret))
 (.skip)))
 (.seq (.seq (.region false [(q_ 17 (.move (t_ 0))),
 (q_ 18 (.move (t_ 1))),
 (q_ 19 (.bin .gtr 3 (t_ 17) (t_ 18)))])
 (.cond (t_ 19)
 (.seq (.region false [(q_ 4 (.move (k_ 1)))])
 (.ret))
 (.skip)))
 (.seq (.region false [(q_ 4 (.move (k_ 0)))])
 (.ret))))))))
theorem text28 : FnText Try.prog 28 [] 20 2 ac28 [(4, none)] :=
 ⟨Try.call28, follows, Try.f28, _, Try.func28, rfl, rfl, by decide, by kernel_rfl, by kernel_rfl⟩

def ac27_L1 : AC :=
 .seq (.region false [(q_ 9 (.bin .lss 3 (t_ 8) (t_ 7)))])
 (.seq (.cond (t_ 9)
 (.skip)
 (.exit 0))
 (.seq (.block 1 (.seq (.region false [(q_ 10 (.iaddr 1 (t_ 6) (t_ 8))),
 (q_ 11 (.load 1 false (t_ 10))),
 (q_ 5 (.move (t_ 11)))])
 (.seq (.region false [(q_ 12 (.move (t_ 5))),
 (q_ 13 (.move (t_ 3))),
 (q_ 14 (.bin .neq 3 (t_ 12) (t_ 13)))])
 (.cond (t_ 14)
 (.seq (.region false [(q_ 15 (.move (t_ 5))),
 (q_ 2 (.move (t_ 15)))])
 (.ret))
 (.skip)))))
 (.region false [(q_ 16 (.bin .add 3 (t_ 8) (k_ 1))),
 (q_ 8 (.move (t_ 16)))])))
/-- cmp.Or[int] -/
def ac27 : AC :=
 .seq (.region false [(q_ 2 (.move (k_ 0)))])
 (.seq (.region false [(q_ 3 (.move (k_ 0)))])
 (.seq (.seq (.region false [(q_ 6 (.move (t_ 0))),
 (q_ 7 (.bi .len [29].toArray 3 [(t_ 6)])),
 (q_ 8 (.move (k_ 0)))])
 (.block 0 (.loop ac27_L1)))
 (.seq (.region false [(q_ 17 (.move (t_ 3))),
 (q_ 2 (.move (t_ 17)))])
 (.ret))))
theorem text27 : FnText Try.prog 27 [] 18 1 ac27 [(2, none)] :=
 ⟨Try.call27, follows, Try.f27, _, Try.func27, rfl, rfl, by decide, by kernel_rfl, by kernel_rfl⟩


/-- patchbay/expr.Fields$1 -/
def ac26 : AC :=
 .seq (.region false [(q_ 2 (.box false 60 (t_ 0))),
 (q_ 3 (.box false 60 (t_ 1))),
 (q_ 4 (.move (k_ 0)))])
 (.seq (.region true [(q_ 5 (.faddr 0 1 false (t_ 2))),
 (q_ 6 (.load 1 false (t_ 5))),
 (q_ 7 (.faddr 0 1 false (t_ 3))),
 (q_ 8 (.load 1 false (t_ 7))),
 (q_ 9 (.call (.func 28) [(t_ 6), (t_ 8)])),
 (q_ 10 (.faddr 1 1 false (t_ 2))),
 (q_ 11 (.load 1 false (t_ 10))),
 (q_ 12 (.faddr 1 1 false (t_ 3))),
 (q_ 13 (.load 1 false (t_ 12))),
 (q_ 14 (.call (.func 28) [(t_ 11), (t_ 13)])),
 (q_ 15 (.bslice false 3 1 false [(t_ 9), (t_ 14)])),
 (q_ 16 (.call (.func 27) [(t_ 15)])),
 (q_ 4 (.move (t_ 16)))])
 (.ret))
theorem text26 : FnText Try.prog 26 [] 17 2 ac26 [(4, none)] :=
 ⟨Try.call26, follows, Try.f26, _, Try.func26, rfl, rfl, by decide, by kernel_rfl, by kernel_rfl⟩


/-- slices.SortFunc[[]patchbay/api.FieldRef,patchbay/api.FieldRef] -/
def ac25 : AC :=
 .seq (.region false [(q_ 5 (.move (t_ 0))),
 (q_ 6 (.bi .len [52].toArray 3 [(t_ 5)])),
 (q_ 4 (.move (t_ 6)))])
 (.region false [(q_ 7 (.move (t_ 0))),
 (q_ 8 (.move (t_ 4))),
 (q_ 9 (.move (t_ 4))),
 (q_ 10 (.conv 3 97 (t_ 9))),
 (q_ 11 (.call (.func 42) [(t_ 10)])),
 (q_ 12 (.move (t_ 1))),
 (q_ 13 (.call (.func 41) [(t_ 7), (k_ 0), (t_ 8), (t_ 11), (t_ 12)]))])
theorem text25 : FnText Try.prog 25 [] 14 2 ac25 [] :=
 ⟨Try.call25, follows, Try.f25, _, Try.func25, rfl, rfl, by decide, by kernel_rfl, by kernel_rfl⟩

def ac29_L2 : AC :=
 .seq (.seq (.region false [(q_ 29 (.move (t_ 5))),
 (q_ 30 (.move (t_ 4))),
 (q_ 31 (.bi .len [52].toArray 3 [(t_ 30)])),
 (q_ 32 (.bin .lss 3 (t_ 29) (t_ 31)))])
 (.cond (t_ 32)
 (.skip)
 (.exit 2)))
 (.seq (.block 3 (.seq (.region true [(q_ 35 (.move (t_ 4))),
 (q_ 36 (.move (t_ 5))),
 (q_ 37 (.iaddr 2 (t_ 35) (t_ 36))),
 (q_ 38 (.load 2 true (t_ 37))),
 (q_ 39 (.move (t_ 4))),
 (q_ 40 (.move (t_ 5))),
 (q_ 41 (.bin .sub 3 (t_ 40) (k_ 1))),
 (q_ 42 (.iaddr 2 (t_ 39) (t_ 41))),
 (q_ 43 (.load 2 true (t_ 42))),
 (q_ 44 (.bin .neq 60 (t_ 38) (t_ 43)))])
 (.cond (t_ 44)
 (.seq (.region false [(q_ 45 (.move (t_ 0))),
 (q_ 46 (.move (t_ 3))),
 (q_ 47 (.move (t_ 4))),
 (q_ 48 (.move (t_ 5))),
 (q_ 49 (.iaddr 2 (t_ 47) (t_ 48))),
 (q_ 50 (.load 2 true (t_ 49))),
 (q_ 51 (.iaddr 2 (t_ 45) (t_ 46))),
 ⟨none, .store 2 (t_ 51) (t_ 50), none, false⟩])
 (.region false [(q_ 52 (.move (t_ 3))),
 (q_ 53 (.bin .add 3 (t_ 52) (k_ 1))),
 (q_ 3 (.move (t_ 53)))]))
 (.skip))))
 (.region false [(q_ 33 (.move (t_ 5))),
 (q_ 34 (.bin .add 3 (t_ 33) (k_ 1))),
 (q_ 5 (.move (t_ 34)))]))
def ac29_L1 : AC :=
 .seq (.seq (.region false [(q_ 10 (.move (t_ 3))),
 (q_ 11 (.move (t_ 0))),
 (q_ 12 (.bi .len [52].toArray 3 [(t_ 11)])),
 (q_ 13 (.bin .lss 3 (t_ 10) (t_ 12)))])
 (.cond (t_ 13)
 (.skip)
 (.exit 0)))
 (.seq (.block 1 (.seq (.region true [(q_ 16 (.move (t_ 0))),
 (q_ 17 (.move (t_ 3))),
 (q_ 18 (.iaddr 2 (t_ 16) (t_ 17))),
 (q_ 19 (.load 2 true (t_ 18))),
 (q_ 20 (.move (t_ 0))),
 (q_ 21 (.move (t_ 3))),
 (q_ 22 (.bin .sub 3 (t_ 21) (k_ 1))),
 (q_ 23 (.iaddr 2 (t_ 20) (t_ 22))),
 (q_ 24 (.load 2 true (t_ 23))),
 (q_ 25 (.bin .eql 60 (t_ 19) (t_ 24)))])
 (.cond (t_ 25)
 (.seq (.region false [(q_ 26 (.move (t_ 0))),
 (q_ 27 (.move (t_ 3))),
 (q_ 28 (.slice 52 2 (t_ 26) (some (t_ 27)) none none)),
 (q_ 4 (.move (t_ 28)))])
 (.seq (.seq (.region false [(q_ 5 (.move (k_ 1)))])
 (.block 2 (.loop ac29_L2)))
 (.seq (.region false [(q_ 54 (.move (t_ 0))),
 (q_ 55 (.move (t_ 3))),
 (q_ 56 (.slice 52 2 (t_ 54) (some (t_ 55)) none none)),
 ⟨none, .clr 2 (.agg [(.int .i64 0), (.int .i64 0)].toArray) (t_ 56), none, false⟩])
 (.seq (.region false [(q_ 57 (.move (t_ 0))),
 (q_ 58 (.move (t_ 3))),
 (q_ 59 (.slice 52 2 (t_ 57) none (some (t_ 58)) none)),
 (q_ 2 (.move (t_ 59)))])
 (.ret)))))
 (.skip))))
 (.region false [(q_ 14 (.move (t_ 3))),
 (q_ 15 (.bin .add 3 (t_ 14) (k_ 1))),
 (q_ 3 (.move (t_ 15)))]))
/-- slices.Compact[[]patchbay/api.FieldRef,patchbay/api.FieldRef] -/
def ac29 : AC :=
 .seq (.region false [(q_ 2 (.move (.const (.slice none 0 0))))])
 (.seq (.seq (.region false [(q_ 6 (.move (t_ 0))),
 (q_ 7 (.bi .len [52].toArray 3 [(t_ 6)])),
 (q_ 8 (.bin .lss 3 (t_ 7) (k_ 2)))])
 (.cond (t_ 8)
 (.seq (.region false [(q_ 9 (.move (t_ 0))),
 (q_ 2 (.move (t_ 9)))])
 (.ret))
 (.skip)))
 (.seq (.seq (.region false [(q_ 3 (.move (k_ 1)))])
 (.block 0 (.loop ac29_L1)))
 (.seq (.region false [(q_ 60 (.move (t_ 0))),
 (q_ 2 (.move (t_ 60)))])
 (.ret))))
theorem text29 : FnText Try.prog 29 [] 61 1 ac29 [(2, none)] :=
 ⟨Try.call29, follows, Try.f29, _, Try.func29, rfl, rfl, by decide, by kernel_rfl, by kernel_rfl⟩

def ac12_L1 : AC :=
 .seq (.region false [(q_ 9 (.bin .lss 3 (t_ 8) (t_ 7)))])
 (.seq (.cond (t_ 9)
 (.skip)
 (.exit 0))
 (.seq (.block 1 (.seq (.region false [(q_ 10 (.iaddr 3 (t_ 6) (t_ 8))),
 (q_ 11 (.load 3 true (t_ 10))),
 (q_ 5 (.alloc true 69 (.agg [(.int .i64 0), (.int .i64 0), (.int .i64 0)].toArray))),
 ⟨none, .store 3 (t_ 5) (t_ 11), none, false⟩])
 (.seq (.region false [(q_ 12 (.faddr 0 1 false (t_ 5))),
 (q_ 13 (.load 1 false (t_ 12))),
 (q_ 14 (.bin .eql 3 (t_ 13) (k_ 2)))])
 (.cond (t_ 14)
 (.region false [(q_ 15 (.move (t_ 3))),
 (q_ 16 (.faddr 1 1 false (t_ 5))),
 (q_ 17 (.load 1 false (t_ 16))),
 (q_ 18 (.faddr 2 1 false (t_ 5))),
 (q_ 19 (.load 1 false (t_ 18))),
 (q_ 20 (.build [(.int .i64 0), (.int .i64 0)] [(0, 1, (t_ 17)), (1, 1, (t_ 19))])),
 (q_ 21 (.bslice false 60 2 false [(t_ 20)])),
 (q_ 22 (.append 52 60 2 16 (t_ 15) (t_ 21))),
 (q_ 3 (.move (t_ 22)))])
 (.skip)))))
 (.region false [(q_ 23 (.bin .add 3 (t_ 8) (k_ 1))),
 (q_ 8 (.move (t_ 23)))])))
/-- patchbay/expr.Fields -/
def ac12 : AC :=
 .seq (.region false [(q_ 2 (.move (.const (.slice none 0 0))))])
 (.seq (.region false [(q_ 3 (.move (.const (.slice none 0 0))))])
 (.seq (.seq (.region false [(q_ 6 (.move (t_ 0))),
 (q_ 7 (.bi .len [32].toArray 3 [(t_ 6)])),
 (q_ 8 (.move (k_ 0)))])
 (.block 0 (.loop ac12_L1)))
 (.seq (.region false [(q_ 24 (.move (t_ 3))),
 (q_ 25 (.call (.func 25) [(t_ 24), (.func 26)]))])
 (.seq (.region false [(q_ 26 (.move (t_ 3))),
 (q_ 27 (.call (.func 29) [(t_ 26)])),
 (q_ 2 (.move (t_ 27)))])
 (.ret)))))
theorem text12 : FnText Try.prog 12 [5] 28 1 ac12 [(2, none)] :=
 ⟨Try.call12, follows, Try.f12, _, Try.func12, rfl, rfl, by decide, by kernel_rfl, by kernel_rfl⟩


/-- slices.Sort[[]int,int] -/
def ac31 : AC :=
 .seq (.region false [(q_ 3 (.move (t_ 0))),
 (q_ 4 (.bi .len [29].toArray 3 [(t_ 3)])),
 (q_ 2 (.move (t_ 4)))])
 (.region false [(q_ 5 (.move (t_ 0))),
 (q_ 6 (.move (t_ 2))),
 (q_ 7 (.move (t_ 2))),
 (q_ 8 (.conv 3 97 (t_ 7))),
 (q_ 9 (.call (.func 42) [(t_ 8)])),
 (q_ 10 (.call (.func 45) [(t_ 5), (k_ 0), (t_ 6), (t_ 9)]))])
theorem text31 : FnText Try.prog 31 [] 11 1 ac31 [] :=
 ⟨Try.call31, follows, Try.f31, _, Try.func31, rfl, rfl, by decide, by kernel_rfl, by kernel_rfl⟩

def ac32_L2 : AC :=
 .seq (.seq (.region false [(q_ 29 (.move (t_ 5))),
 (q_ 30 (.move (t_ 4))),
 (q_ 31 (.bi .len [29].toArray 3 [(t_ 30)])),
 (q_ 32 (.bin .lss 3 (t_ 29) (t_ 31)))])
 (.cond (t_ 32)
 (.skip)
 (.exit 2)))
 (.seq (.block 3 (.seq (.region true [(q_ 35 (.move (t_ 4))),
 (q_ 36 (.move (t_ 5))),
 (q_ 37 (.iaddr 1 (t_ 35) (t_ 36))),
 (q_ 38 (.load 1 false (t_ 37))),
 (q_ 39 (.move (t_ 4))),
 (q_ 40 (.move (t_ 5))),
 (q_ 41 (.bin .sub 3 (t_ 40) (k_ 1))),
 (q_ 42 (.iaddr 1 (t_ 39) (t_ 41))),
 (q_ 43 (.load 1 false (t_ 42))),
 (q_ 44 (.bin .neq 3 (t_ 38) (t_ 43)))])
 (.cond (t_ 44)
 (.seq (.region false [(q_ 45 (.move (t_ 0))),
 (q_ 46 (.move (t_ 3))),
 (q_ 47 (.move (t_ 4))),
 (q_ 48 (.move (t_ 5))),
 (q_ 49 (.iaddr 1 (t_ 47) (t_ 48))),
 (q_ 50 (.load 1 false (t_ 49))),
 (q_ 51 (.iaddr 1 (t_ 45) (t_ 46))),
 ⟨none, .store 1 (t_ 51) (t_ 50), none, false⟩])
 (.region false [(q_ 52 (.move (t_ 3))),
 (q_ 53 (.bin .add 3 (t_ 52) (k_ 1))),
 (q_ 3 (.move (t_ 53)))]))
 (.skip))))
 (.region false [(q_ 33 (.move (t_ 5))),
 (q_ 34 (.bin .add 3 (t_ 33) (k_ 1))),
 (q_ 5 (.move (t_ 34)))]))
def ac32_L1 : AC :=
 .seq (.seq (.region false [(q_ 10 (.move (t_ 3))),
 (q_ 11 (.move (t_ 0))),
 (q_ 12 (.bi .len [29].toArray 3 [(t_ 11)])),
 (q_ 13 (.bin .lss 3 (t_ 10) (t_ 12)))])
 (.cond (t_ 13)
 (.skip)
 (.exit 0)))
 (.seq (.block 1 (.seq (.region true [(q_ 16 (.move (t_ 0))),
 (q_ 17 (.move (t_ 3))),
 (q_ 18 (.iaddr 1 (t_ 16) (t_ 17))),
 (q_ 19 (.load 1 false (t_ 18))),
 (q_ 20 (.move (t_ 0))),
 (q_ 21 (.move (t_ 3))),
 (q_ 22 (.bin .sub 3 (t_ 21) (k_ 1))),
 (q_ 23 (.iaddr 1 (t_ 20) (t_ 22))),
 (q_ 24 (.load 1 false (t_ 23))),
 (q_ 25 (.bin .eql 3 (t_ 19) (t_ 24)))])
 (.cond (t_ 25)
 (.seq (.region false [(q_ 26 (.move (t_ 0))),
 (q_ 27 (.move (t_ 3))),
 (q_ 28 (.slice 29 1 (t_ 26) (some (t_ 27)) none none)),
 (q_ 4 (.move (t_ 28)))])
 (.seq (.seq (.region false [(q_ 5 (.move (k_ 1)))])
 (.block 2 (.loop ac32_L2)))
 (.seq (.region false [(q_ 54 (.move (t_ 0))),
 (q_ 55 (.move (t_ 3))),
 (q_ 56 (.slice 29 1 (t_ 54) (some (t_ 55)) none none)),
 ⟨none, .clr 1 (.int .i64 0) (t_ 56), none, false⟩])
 (.seq (.region false [(q_ 57 (.move (t_ 0))),
 (q_ 58 (.move (t_ 3))),
 (q_ 59 (.slice 29 1 (t_ 57) none (some (t_ 58)) none)),
 (q_ 2 (.move (t_ 59)))])
 (.ret)))))
 (.skip))))
 (.region false [(q_ 14 (.move (t_ 3))),
 (q_ 15 (.bin .add 3 (t_ 14) (k_ 1))),
 (q_ 3 (.move (t_ 15)))]))
/-- slices.Compact[[]int,int] -/
def ac32 : AC :=
 .seq (.region false [(q_ 2 (.move (.const (.slice none 0 0))))])
 (.seq (.seq (.region false [(q_ 6 (.move (t_ 0))),
 (q_ 7 (.bi .len [29].toArray 3 [(t_ 6)])),
 (q_ 8 (.bin .lss 3 (t_ 7) (k_ 2)))])
 (.cond (t_ 8)
 (.seq (.region false [(q_ 9 (.move (t_ 0))),
 (q_ 2 (.move (t_ 9)))])
 (.ret))
 (.skip)))
 (.seq (.seq (.region false [(q_ 3 (.move (k_ 1)))])
 (.block 0 (.loop ac32_L1)))
 (.seq (.region false [(q_ 60 (.move (t_ 0))),
 (q_ 2 (.move (t_ 60)))])
 (.ret))))
theorem text32 : FnText Try.prog 32 [] 61 1 ac32 [(2, none)] :=
 ⟨Try.call32, follows, Try.f32, _, Try.func32, rfl, rfl, by decide, by kernel_rfl, by kernel_rfl⟩

def ac15_L1 : AC :=
 .seq (.region false [(q_ 9 (.bin .lss 3 (t_ 8) (t_ 7)))])
 (.seq (.cond (t_ 9)
 (.skip)
 (.exit 0))
 (.seq (.block 1 (.seq (.region false [(q_ 10 (.iaddr 3 (t_ 6) (t_ 8))),
 (q_ 11 (.load 3 true (t_ 10))),
 (q_ 5 (.alloc true 69 (.agg [(.int .i64 0), (.int .i64 0), (.int .i64 0)].toArray))),
 ⟨none, .store 3 (t_ 5) (t_ 11), none, false⟩])
 (.seq (.region false [(q_ 12 (.faddr 0 1 false (t_ 5))),
 (q_ 13 (.load 1 false (t_ 12))),
 (q_ 14 (.bin .eql 3 (t_ 13) (k_ 4)))])
 (.cond (t_ 14)
 (.region false [(q_ 15 (.move (t_ 3))),
 (q_ 16 (.faddr 1 1 false (t_ 5))),
 (q_ 17 (.load 1 false (t_ 16))),
 (q_ 18 (.bslice false 3 1 false [(t_ 17)])),
 (q_ 19 (.append 29 3 1 8 (t_ 15) (t_ 18))),
 (q_ 3 (.move (t_ 19)))])
 (.skip)))))
 (.region false [(q_ 20 (.bin .add 3 (t_ 8) (k_ 1))),
 (q_ 8 (.move (t_ 20)))])))
/-- patchbay/expr.Headers -/
def ac15 : AC :=
 .seq (.region false [(q_ 2 (.move (.const (.slice none 0 0))))])
 (.seq (.region false [(q_ 3 (.move (.const (.slice none 0 0))))])
 (.seq (.seq (.region false [(q_ 6 (.move (t_ 0))),
 (q_ 7 (.bi .len [32].toArray 3 [(t_ 6)])),
 (q_ 8 (.move (k_ 0)))])
 (.block 0 (.loop ac15_L1)))
 (.seq (.region false [(q_ 21 (.move (t_ 3))),
 (q_ 22 (.call (.func 31) [(t_ 21)]))])
 (.seq (.region false [(q_ 23 (.move (t_ 3))),
 (q_ 24 (.call (.func 32) [(t_ 23)])),
 (q_ 2 (.move (t_ 24)))])
 (.ret)))))
theorem text15 : FnText Try.prog 15 [5] 25 1 ac15 [(2, none)] :=
 ⟨Try.call15, follows, Try.f15, _, Try.func15, rfl, rfl, by decide, by kernel_rfl, by kernel_rfl⟩

def ac34_G1 : List AOper :=
 [⟨(some 12), .faddr 1 1 false (t_ 3), (some (11, true)), false⟩,
 ⟨(some 13), .load 1 false (t_ 12), (some (11, true)), false⟩,
 ⟨(some 14), .faddr 2 1 false (t_ 2), (some (11, true)), false⟩,
 ⟨(some 15), .load 1 false (t_ 14), (some (11, true)), false⟩,
 ⟨(some 16), .bi .len [35].toArray 3 [(t_ 15)], (some (11, true)), false⟩,
 ⟨(some 17), .bin .lss 3 (t_ 13) (t_ 16), (some (11, true)), false⟩,
 (q_ 18 (.pick (t_ 11) (t_ 17) (.const (.bool false))))]
def ac34_G2 : List AOper :=
 [⟨(some 23), .faddr 0 1 false (t_ 3), (some (22, true)), false⟩,
 ⟨(some 24), .load 1 false (t_ 23), (some (22, true)), false⟩,
 ⟨(some 25), .faddr 1 1 false (t_ 2), (some (22, true)), false⟩,
 ⟨(some 26), .load 1 false (t_ 25), (some (22, true)), false⟩,
 ⟨(some 27), .bi .len [34].toArray 3 [(t_ 26)], (some (22, true)), false⟩,
 ⟨(some 28), .bin .lss 3 (t_ 24) (t_ 27), (some (22, true)), false⟩,
 (q_ 29 (.pick (t_ 22) (t_ 28) (.const (.bool false))))]
def ac34_G3 : List AOper :=
 [⟨(some 31), .faddr 1 1 false (t_ 3), (some (30, true)), false⟩,
 ⟨(some 32), .load 1 false (t_ 31), (some (30, true)), false⟩,
 ⟨(some 33), .bin .geq 3 (t_ 32) (k_ 0), (some (30, true)), false⟩,
 (q_ 34 (.pick (t_ 30) (t_ 33) (.const (.bool false))))]
def ac34_G4 : List AOper :=
 [⟨(some 36), .faddr 1 1 false (t_ 3), (some (35, true)), false⟩,
 ⟨(some 37), .load 1 false (t_ 36), (some (35, true)), false⟩,
 ⟨(some 38), .faddr 1 1 false (t_ 2), (some (35, true)), false⟩,
 ⟨(some 39), .load 1 false (t_ 38), (some (35, true)), false⟩,
 ⟨(some 40), .faddr 0 1 false (t_ 3), (some (35, true)), false⟩,
 ⟨(some 41), .load 1 false (t_ 40), (some (35, true)), false⟩,
 ⟨(some 42), .iaddr 1 (t_ 39) (t_ 41), (some (35, true)), false⟩,
 ⟨(some 43), .load 1 false (t_ 42), (some (35, true)), false⟩,
 ⟨(some 44), .bi .len [35].toArray 3 [(t_ 43)], (some (35, true)), false⟩,
 ⟨(some 45), .bin .lss 3 (t_ 37) (t_ 44), (some (35, true)), false⟩,
 (q_ 46 (.pick (t_ 35) (t_ 45) (.const (.bool false))))]
/-- patchbay/patchbayref12.element -/
def ac34 : AC :=
 .seq (.region false [(q_ 2 (.box false 38 (t_ 0))),
 (q_ 3 (.box false 60 (t_ 1))),
 (q_ 4 (.move (.const (.bool false))))])
 (.seq (.seq (.region false [(q_ 5 (.faddr 0 1 false (t_ 3))),
 (q_ 6 (.load 1 false (t_ 5))),
 (q_ 7 (.bin .eql 3 (t_ 6) (.const (.int .i64 (-1)))))])
 (.cond (t_ 7)
 (.seq (.region false ((q_ 8 (.faddr 1 1 false (t_ 3))) :: (q_ 9 (.load 1 false (t_ 8))) :: (q_ 10 (.bin .geq 3 (t_ 9) (k_ 0))) :: (q_ 11 (.move (t_ 10))) :: (ac34_G1 ++ [(q_ 4 (.move (t_ 18)))])))
 (.ret))
 (.skip)))
 (.seq (.region true ((q_ 19 (.faddr 0 1 false (t_ 3))) :: (q_ 20 (.load 1 false (t_ 19))) :: (q_ 21 (.bin .geq 3 (t_ 20) (k_ 0))) :: (q_ 22 (.move (t_ 21))) :: (ac34_G2 ++ ((q_ 30 (.move (t_ 29))) :: (ac34_G3 ++ ((q_ 35 (.move (t_ 34))) :: (ac34_G4 ++ [(q_ 4 (.move (t_ 46)))])))))))
 (.ret)))
theorem text34 : FnText Try.prog 34 [] 47 2 ac34 [(4, none)] :=
 ⟨Try.call34, follows, Try.f34, _, Try.func34, rfl, rfl, by decide, by kernel_rfl, by kernel_rfl⟩

def ac35_G1 : List AOper :=
 [⟨(some 8), .move (t_ 1), (some (7, true)), false⟩,
 ⟨(some 9), .faddr 0 1 false (t_ 2), (some (7, true)), false⟩,
 ⟨(some 10), .load 1 false (t_ 9), (some (7, true)), false⟩,
 ⟨(some 11), .bi .len [33].toArray 3 [(t_ 10)], (some (7, true)), false⟩,
 ⟨(some 12), .bin .lss 3 (t_ 8) (t_ 11), (some (7, true)), false⟩,
 (q_ 13 (.pick (t_ 7) (t_ 12) (.const (.bool false))))]
def ac35_G2 : List AOper :=
 [⟨(some 15), .faddr 0 1 false (t_ 2), (some (14, true)), false⟩,
 ⟨(some 16), .load 1 false (t_ 15), (some (14, true)), false⟩,
 ⟨(some 17), .move (t_ 1), (some (14, true)), false⟩,
 ⟨(some 18), .iaddr 1 (t_ 16) (t_ 17), (some (14, true)), false⟩,
 ⟨(some 19), .load 1 false (t_ 18), (some (14, true)), false⟩,
 (q_ 20 (.pick (t_ 14) (t_ 19) (.const (.bool false))))]
/-- patchbay/patchbayref12.Has -/
def ac35 : AC :=
 .seq (.region false [(q_ 2 (.box false 38 (t_ 0))),
 (q_ 4 (.move (.const (.bool false))))])
 (.seq (.region false ((q_ 5 (.move (t_ 1))) :: (q_ 6 (.bin .geq 3 (t_ 5) (k_ 0))) :: (q_ 7 (.move (t_ 6))) :: (ac35_G1 ++ ((q_ 14 (.move (t_ 13))) :: (ac35_G2 ++ [(q_ 4 (.move (t_ 20)))])))))
 (.ret))
theorem text35 : FnText Try.prog 35 [] 21 2 ac35 [(4, none)] :=
 ⟨Try.call35, follows, Try.f35, _, Try.func35, rfl, rfl, by decide, by kernel_rfl, by kernel_rfl⟩


/-- patchbay/patchbayref12.Get -/
def ac17 : AC :=
 .seq (.region false [(q_ 2 (.box false 38 (t_ 0))),
 (q_ 3 (.box false 60 (t_ 1))),
 (q_ 4 (.move (.const (.int .u32 0))))])
 (.seq (.seq (.region false [(q_ 5 (.load 4 true (t_ 2))),
 (q_ 6 (.load 2 true (t_ 3))),
 (q_ 7 (.call (.func 34) [(t_ 5), (t_ 6)])),
 (q_ 8 (.un .not (t_ 7)))])
 (.cond (t_ 8)
 (.seq (.region false [(q_ 4 (.move (.const (.int .u32 0))))])
 (.ret))
 (.skip)))
 (.seq (.seq (.region false [(q_ 9 (.faddr 0 1 false (t_ 3))),
 (q_ 10 (.load 1 false (t_ 9))),
 (q_ 11 (.bin .eql 3 (t_ 10) (.const (.int .i64 (-1)))))])
 (.cond (t_ 11)
 (.seq (.region false [(q_ 12 (.faddr 2 1 false (t_ 2))),
 (q_ 13 (.load 1 false (t_ 12))),
 (q_ 14 (.faddr 1 1 false (t_ 3))),
 (q_ 15 (.load 1 false (t_ 14))),
 (q_ 16 (.iaddr 1 (t_ 13) (t_ 15))),
 (q_ 17 (.load 1 false (t_ 16))),
 (q_ 4 (.move (t_ 17)))])
 (.ret))
 (.skip)))
 (.seq (.seq (.region false [(q_ 18 (.load 4 true (t_ 2))),
 (q_ 19 (.faddr 0 1 false (t_ 3))),
 (q_ 20 (.load 1 false (t_ 19))),
 (q_ 21 (.call (.func 35) [(t_ 18), (t_ 20)])),
 (q_ 22 (.un .not (t_ 21)))])
 (.cond (t_ 22)
 (.seq (.region false [(q_ 4 (.move (.const (.int .u32 0))))])
 (.ret))
 (.skip)))
 (.seq (.region true [(q_ 23 (.faddr 1 1 false (t_ 2))),
 (q_ 24 (.load 1 false (t_ 23))),
 (q_ 25 (.faddr 0 1 false (t_ 3))),
 (q_ 26 (.load 1 false (t_ 25))),
 (q_ 27 (.iaddr 1 (t_ 24) (t_ 26))),
 (q_ 28 (.load 1 false (t_ 27))),
 (q_ 29 (.faddr 1 1 false (t_ 3))),
 (q_ 30 (.load 1 false (t_ 29))),
 (q_ 31 (.iaddr 1 (t_ 28) (t_ 30))),
 (q_ 32 (.load 1 false (t_ 31))),
 (q_ 4 (.move (t_ 32)))])
 (.ret)))))
theorem text17 : FnText Try.prog 17 [] 33 2 ac17 [(4, none)] :=
 ⟨Try.call17, follows, Try.f17, _, Try.func17, rfl, rfl, by decide, by kernel_rfl, by kernel_rfl⟩

def ac18_G1 : List AOper :=
 [⟨(some 8), .move (t_ 1), (some (7, true)), false⟩,
 ⟨(some 9), .faddr 0 1 false (t_ 2), (some (7, true)), false⟩,
 ⟨(some 10), .load 1 false (t_ 9), (some (7, true)), false⟩,
 ⟨(some 11), .bi .len [33].toArray 3 [(t_ 10)], (some (7, true)), false⟩,
 ⟨(some 12), .bin .lss 3 (t_ 8) (t_ 11), (some (7, true)), false⟩,
 (q_ 13 (.pick (t_ 7) (t_ 12) (.const (.bool false))))]
def ac18_G2 : List AOper :=
 [⟨(some 15), .faddr 0 1 false (t_ 2), (some (14, true)), false⟩,
 ⟨(some 16), .load 1 false (t_ 15), (some (14, true)), false⟩,
 ⟨(some 17), .move (t_ 1), (some (14, true)), false⟩,
 ⟨(some 18), .iaddr 1 (t_ 16) (t_ 17), (some (14, true)), false⟩,
 ⟨(some 19), .load 1 false (t_ 18), (some (14, true)), false⟩,
 (q_ 20 (.pick (t_ 14) (t_ 19) (.const (.bool false))))]
/-- patchbay/patchbaylaw13.valid -/
def ac18 : AC :=
 .seq (.region false [(q_ 2 (.box false 38 (t_ 0))),
 (q_ 4 (.move (.const (.bool false))))])
 (.seq (.region false ((q_ 5 (.move (t_ 1))) :: (q_ 6 (.bin .geq 3 (t_ 5) (k_ 0))) :: (q_ 7 (.move (t_ 6))) :: (ac18_G1 ++ ((q_ 14 (.move (t_ 13))) :: (ac18_G2 ++ [(q_ 4 (.move (t_ 20)))])))))
 (.ret))
theorem text18 : FnText Try.prog 18 [] 21 2 ac18 [(4, none)] :=
 ⟨Try.call18, follows, Try.f18, _, Try.func18, rfl, rfl, by decide, by kernel_rfl, by kernel_rfl⟩


/-- (patchbay/patchbaylaw13.Args).scope -/
def ac7 : AC :=
 .seq (.region false [(q_ 1 (.box false 40 (t_ 0))),
 ⟨(some 2), .alloc true 46 (.agg [(.string ⟨[].toArray⟩), (.slice none 0 0), (.slice none 0 0), (.slice none 0 0), (.slice none 0 0), (.slice none 0 0), (.slice none 0 0), (.slice none 0 0), (.slice none 0 0), (.slice none 0 0)].toArray), none, false⟩])
 (.seq (.region false [(q_ 3 (.faddr 0 9 true (t_ 1))),
 (q_ 4 (.load 9 true (t_ 3))),
 (q_ 5 (.faddr 9 1 false (t_ 1))),
 (q_ 6 (.load 1 false (t_ 5))),
 ⟨(some 7), .build [(.string ⟨[].toArray⟩), (.slice none 0 0), (.slice none 0 0), (.slice none 0 0), (.slice none 0 0), (.slice none 0 0), (.slice none 0 0), (.slice none 0 0), (.slice none 0 0), (.slice none 0 0)] [(0, 9, (t_ 4)), (9, 1, (t_ 6))], none, false⟩,
 ⟨none, .store 10 (t_ 2) (t_ 7), none, false⟩])
 (.ret))
theorem text7 : FnText Try.prog 7 [2] 8 1 ac7 [(2, some (10, true))] :=
 ⟨Try.call7, follows, Try.f7, _, Try.func7, rfl, rfl, by decide, by kernel_rfl, by kernel_rfl⟩


/-- patchbay/expr.arity -/
def ac23 : AC :=
 .seq (.region false [(q_ 2 (.move (k_ 0)))])
 (.seq (.seq (.region false [(q_ 3 (.move (t_ 0)))])
 (.block 0 (.seq (.seq (.region false [(q_ 5 (.bin .eql 3 (t_ 3) (k_ 1))),
 (q_ 4 (.move (t_ 5)))])
 (.cond (t_ 4)
 (.skip)
 (.seq (.region false [(q_ 6 (.bin .eql 3 (t_ 3) (k_ 2))),
 (q_ 4 (.move (t_ 6)))])
 (.cond (t_ 4)
 (.skip)
 (.seq (.region false [(q_ 7 (.bin .eql 3 (t_ 3) (k_ 3))),
 (q_ 4 (.move (t_ 7)))])
 (.cond (t_ 4)
 (.skip)
 (.region false [(q_ 8 (.bin .eql 3 (t_ 3) (k_ 4))),
 (q_ 4 (.move (t_ 8)))])))))))
 (.cond (t_ 4)
 (.seq (.region false [(q_ 2 (.move (k_ 0)))])
 (.ret))
 (.seq (.seq (.region false [(q_ 10 (.bin .eql 3 (t_ 3) (k_ 5))),
 (q_ 9 (.move (t_ 10)))])
 (.cond (t_ 9)
 (.skip)
 (.seq (.region false [(q_ 11 (.bin .eql 3 (t_ 3) (k_ 6))),
 (q_ 9 (.move (t_ 11)))])
 (.cond (t_ 9)
 (.skip)
 (.seq (.region false [(q_ 12 (.bin .eql 3 (t_ 3) (k_ 7))),
 (q_ 9 (.move (t_ 12)))])
 (.cond (t_ 9)
 (.skip)
 (.region false [(q_ 13 (.bin .eql 3 (t_ 3) (k_ 8))),
 (q_ 9 (.move (t_ 13)))])))))))
 (.cond (t_ 9)
 (.seq (.region false [(q_ 2 (.move (k_ 1)))])
 (.ret))
 (.seq (.seq (.region false [(q_ 15 (.bin .eql 3 (t_ 3) (k_ 9))),
 (q_ 14 (.move (t_ 15)))])
 (.cond (t_ 14)
 (.skip)
 (.seq (.region false [(q_ 16 (.bin .eql 3 (t_ 3) (k_ 10))),
 (q_ 14 (.move (t_ 16)))])
 (.cond (t_ 14)
 (.skip)
 (.seq (.region false [(q_ 17 (.bin .eql 3 (t_ 3) (k_ 11))),
 (q_ 14 (.move (t_ 17)))])
 (.cond (t_ 14)
 (.skip)
 (.seq (.region false [(q_ 18 (.bin .eql 3 (t_ 3) (k_ 12))),
 (q_ 14 (.move (t_ 18)))])
 (.cond (t_ 14)
 (.skip)
 (.seq (.region false [(q_ 19 (.bin .eql 3 (t_ 3) (k_ 13))),
 (q_ 14 (.move (t_ 19)))])
 (.cond (t_ 14)
 (.skip)
 (.seq (.region false [(q_ 20 (.bin .eql 3 (t_ 3) (k_ 14))),
 (q_ 14 (.move (t_ 20)))])
 (.cond (t_ 14)
 (.skip)
 (.seq (.region false [(q_ 21 (.bin .eql 3 (t_ 3) (k_ 15))),
 (q_ 14 (.move (t_ 21)))])
 (.cond (t_ 14)
 (.skip)
 (.region false [(q_ 22 (.bin .eql 3 (t_ 3) (k_ 16))),
 (q_ 14 (.move (t_ 22)))])))))))))))))))
 (.cond (t_ 14)
 (.seq (.region false [(q_ 2 (.move (k_ 2)))])
 (.ret))
 (.seq (.region false [(q_ 24 (.bin .eql 3 (t_ 3) (k_ 17))),
 (q_ 23 (.move (t_ 24)))])
 (.cond (t_ 23)
 (.seq (.region false [(q_ 2 (.move (k_ 3)))])
 (.ret))
 (.skip)))))))))))
 (.seq (.region false [(q_ 2 (.move (.const (.int .i64 (-1)))))])
 (.ret)))
theorem text23 : FnText Try.prog 23 [] 25 1 ac23 [(2, none)] :=
 ⟨Try.call23, follows, Try.f23, _, Try.func23, rfl, rfl, by decide, by kernel_rfl, by kernel_rfl⟩

def ac49_G1 : List AOper :=
 [⟨(some 7), .move (t_ 0), (some (6, false)), false⟩,
 ⟨(some 8), .bin .gtr 3 (t_ 7) (k_ 32), (some (6, false)), false⟩,
 (q_ 9 (.pick (t_ 6) (.const (.bool true)) (t_ 8)))]
/-- patchbay/expr.wide -/
def ac49 : AC :=
 .seq (.region false [(q_ 2 (.move (k_ 0))),
 (q_ 3 (.move (k_ 0)))])
 (.seq (.seq (.region false ((q_ 4 (.move (t_ 0))) :: (q_ 5 (.bin .lss 3 (t_ 4) (k_ 1))) :: (q_ 6 (.move (t_ 5))) :: (ac49_G1 ++ [])))
 (.cond (t_ 9)
 (.seq (.region false [(q_ 2 (.move (k_ 0))),
 (q_ 3 (.move (k_ 10)))])
 (.ret))
 (.skip)))
 (.seq (.region false [(q_ 10 (.move (t_ 0))),
 (q_ 2 (.move (t_ 10))),
 (q_ 3 (.move (k_ 0)))])
 (.ret)))
theorem text49 : FnText Try.prog 49 [] 11 1 ac49 [(2, none), (3, none)] :=
 ⟨Try.call49, follows, Try.f49, _, Try.func49, rfl, rfl, by decide, by kernel_rfl, by kernel_rfl⟩

def ac83_G1 : List AOper :=
 [⟨(some 14), .move (t_ 4), (some (13, false)), false⟩,
 ⟨(some 15), .bin .gtr 3 (t_ 14) (k_ 32), (some (13, false)), false⟩,
 (q_ 16 (.pick (t_ 13) (.const (.bool true)) (t_ 15)))]
def ac83_L1 : AC :=
 .seq (.region false [(q_ 8 (.bin .lss 3 (t_ 7) (t_ 6)))])
 (.seq (.cond (t_ 8)
 (.skip)
 (.exit 0))
 (.seq (.block 1 (.seq (.region false [(q_ 9 (.iaddr 1 (t_ 5) (t_ 7))),
 (q_ 10 (.load 1 false (t_ 9))),
 (q_ 4 (.move (t_ 10)))])
 (.seq (.region false ((q_ 11 (.move (t_ 4))) :: (q_ 12 (.bin .lss 3 (t_ 11) (k_ 1))) :: (q_ 13 (.move (t_ 12))) :: (ac83_G1 ++ [])))
 (.cond (t_ 16)
 (.seq (.region false [(q_ 2 (.move (.const (.bool false))))])
 (.ret))
 (.skip)))))
 (.region false [(q_ 17 (.bin .add 3 (t_ 7) (k_ 1))),
 (q_ 7 (.move (t_ 17)))])))
/-- patchbay/bitvec.valid -/
def ac83 : AC :=
 .seq (.region false [(q_ 2 (.move (.const (.bool false))))])
 (.seq (.seq (.region false [(q_ 5 (.move (t_ 0))),
 (q_ 6 (.bi .len [29].toArray 3 [(t_ 5)])),
 (q_ 7 (.move (k_ 0)))])
 (.block 0 (.loop ac83_L1)))
 (.seq (.region false [(q_ 2 (.move (.const (.bool true))))])
 (.ret)))
theorem text83 : FnText Try.prog 83 [] 18 1 ac83 [(2, none)] :=
 ⟨Try.call83, follows, Try.f83, _, Try.func83, rfl, rfl, by decide, by kernel_rfl, by kernel_rfl⟩


/-- patchbay/bitvec.Mask -/
def ac50 : AC :=
 .seq (.region false [(q_ 2 (.move (.const (.int .u32 0))))])
 (.seq (.seq (.region false [(q_ 3 (.move (t_ 0))),
 (q_ 4 (.bslice false 3 1 false [(t_ 3)])),
 (q_ 5 (.call (.func 83) [(t_ 4)])),
 (q_ 6 (.un .not (t_ 5)))])
 (.cond (t_ 6)
 (.seq (.region false [(q_ 2 (.move (.const (.int .u32 0))))])
 (.ret))
 (.skip)))
 (.seq (.region false [(q_ 7 (.move (t_ 0))),
 (q_ 8 (.bin .sub 3 (k_ 32) (t_ 7))),
 (q_ 9 (.bin .shr 57 (.const (.int .u32 4294967295)) (t_ 8))),
 (q_ 2 (.move (t_ 9)))])
 (.ret)))
theorem text50 : FnText Try.prog 50 [] 10 1 ac50 [(2, none)] :=
 ⟨Try.call50, follows, Try.f50, _, Try.func50, rfl, rfl, by decide, by kernel_rfl, by kernel_rfl⟩

def ac51_G1 : List AOper :=
 [⟨(some 17), .move (t_ 1), (some (16, false)), false⟩,
 ⟨(some 18), .faddr 0 9 true (t_ 3), (some (16, false)), false⟩,
 ⟨(some 19), .faddr 1 1 false (t_ 18), (some (16, false)), false⟩,
 ⟨(some 20), .load 1 false (t_ 19), (some (16, false)), false⟩,
 ⟨(some 21), .bi .len [22].toArray 3 [(t_ 20)], (some (16, false)), false⟩,
 ⟨(some 22), .bin .geq 3 (t_ 17) (t_ 21), (some (16, false)), false⟩,
 (q_ 23 (.pick (t_ 16) (.const (.bool true)) (t_ 22)))]
def ac51_G2 : List AOper :=
 [⟨(some 35), .move (t_ 2), (some (34, false)), false⟩,
 ⟨(some 36), .move (t_ 8), (some (34, false)), false⟩,
 ⟨(some 37), .bi .len [23].toArray 3 [(t_ 36)], (some (34, false)), false⟩,
 ⟨(some 38), .bin .geq 3 (t_ 35) (t_ 37), (some (34, false)), false⟩,
 (q_ 39 (.pick (t_ 34) (.const (.bool true)) (t_ 38)))]
/-- (patchbay/expr.Scope).field -/
def ac51 : AC :=
 .seq (.region false [(q_ 3 (.box false 46 (t_ 0))),
 ⟨(some 6), .alloc true 65 (.agg [(.string ⟨[].toArray⟩), (.int .i64 0)].toArray), none, false⟩,
 (q_ 7 (.move (.const (.bool false))))])
 (.seq (.region false [(q_ 9 (.faddr 0 9 true (t_ 3))),
 (q_ 10 (.faddr 2 1 false (t_ 9))),
 (q_ 11 (.load 1 false (t_ 10))),
 (q_ 8 (.move (t_ 11)))])
 (.seq (.seq (.region false [(q_ 12 (.move (t_ 1))),
 (q_ 13 (.bin .neq 3 (t_ 12) (.const (.int .i64 (-1)))))])
 (.cond (t_ 13)
 (.seq (.seq (.region false ((q_ 14 (.move (t_ 1))) :: (q_ 15 (.bin .lss 3 (t_ 14) (k_ 0))) :: (q_ 16 (.move (t_ 15))) :: (ac51_G1 ++ [])))
 (.cond (t_ 23)
 (.seq (.region false [⟨(some 24), .build [(.string ⟨[].toArray⟩), (.int .i64 0)] [], none, false⟩,
 ⟨none, .store 2 (t_ 6) (t_ 24), none, false⟩,
 (q_ 7 (.move (.const (.bool false))))])
 (.ret))
 (.skip)))
 (.region false [(q_ 25 (.faddr 0 9 true (t_ 3))),
 (q_ 26 (.faddr 1 1 false (t_ 25))),
 (q_ 27 (.load 1 false (t_ 26))),
 (q_ 28 (.move (t_ 1))),
 (q_ 29 (.iaddr 2 (t_ 27) (t_ 28))),
 (q_ 30 (.faddr 1 1 false (t_ 29))),
 (q_ 31 (.load 1 false (t_ 30))),
 (q_ 8 (.move (t_ 31)))]))
 (.skip)))
 (.seq (.seq (.region false ((q_ 32 (.move (t_ 2))) :: (q_ 33 (.bin .lss 3 (t_ 32) (k_ 0))) :: (q_ 34 (.move (t_ 33))) :: (ac51_G2 ++ [])))
 (.cond (t_ 39)
 (.seq (.region false [⟨(some 40), .build [(.string ⟨[].toArray⟩), (.int .i64 0)] [], none, false⟩,
 ⟨none, .store 2 (t_ 6) (t_ 40), none, false⟩,
 (q_ 7 (.move (.const (.bool false))))])
 (.ret))
 (.skip)))
 (.seq (.region false [(q_ 41 (.move (t_ 8))),
 (q_ 42 (.move (t_ 2))),
 (q_ 43 (.iaddr 2 (t_ 41) (t_ 42))),
 (q_ 44 (.load 2 true (t_ 43))),
 ⟨none, .store 2 (t_ 6) (t_ 44), none, false⟩,
 (q_ 7 (.move (.const (.bool true))))])
 (.ret)))))
theorem text51 : FnText Try.prog 51 [6] 45 3 ac51 [(6, some (2, true)), (7, none)] :=
 ⟨Try.call51, follows, Try.f51, _, Try.func51, rfl, rfl, by decide, by kernel_rfl, by kernel_rfl⟩

def ac37_G2 : List AOper :=
 [⟨(some 27), .faddr 1 1 false (t_ 3), (some (26, false)), false⟩,
 ⟨(some 28), .load 1 false (t_ 27), (some (26, false)), false⟩,
 ⟨(some 29), .move (t_ 6), (some (26, false)), false⟩,
 ⟨(some 30), .call (.func 50) [(t_ 29)], (some (26, false)), false⟩,
 ⟨(some 31), .conv 57 3 (t_ 30), (some (26, false)), false⟩,
 ⟨(some 32), .bin .gtr 3 (t_ 28) (t_ 31), (some (26, false)), false⟩,
 ⟨(some 33), .pick (t_ 26) (.const (.bool true)) (t_ 32), (some (22, true)), false⟩]
def ac37_G1 : List AOper :=
 (⟨(some 23), .faddr 1 1 false (t_ 3), (some (22, true)), false⟩ :: ⟨(some 24), .load 1 false (t_ 23), (some (22, true)), false⟩ :: ⟨(some 25), .bin .lss 3 (t_ 24) (k_ 0), (some (22, true)), false⟩ :: ⟨(some 26), .move (t_ 25), (some (22, true)), false⟩ :: (ac37_G2 ++ [(q_ 34 (.pick (t_ 22) (t_ 33) (.const (.bool false))))]))
def ac37_G3 : List AOper :=
 [⟨(some 61), .faddr 1 1 false (t_ 3), (some (60, false)), false⟩,
 ⟨(some 62), .load 1 false (t_ 61), (some (60, false)), false⟩,
 ⟨(some 63), .faddr 9 1 false (t_ 2), (some (60, false)), false⟩,
 ⟨(some 64), .load 1 false (t_ 63), (some (60, false)), false⟩,
 ⟨(some 65), .bi .len [23].toArray 3 [(t_ 64)], (some (60, false)), false⟩,
 ⟨(some 66), .bin .geq 3 (t_ 62) (t_ 65), (some (60, false)), false⟩,
 (q_ 67 (.pick (t_ 60) (.const (.bool true)) (t_ 66)))]
def ac37_G4 : List AOper :=
 [⟨(some 82), .faddr 1 1 false (t_ 3), (some (81, false)), false⟩,
 ⟨(some 83), .load 1 false (t_ 82), (some (81, false)), false⟩,
 ⟨(some 84), .faddr 0 9 true (t_ 2), (some (81, false)), false⟩,
 ⟨(some 85), .faddr 1 1 false (t_ 84), (some (81, false)), false⟩,
 ⟨(some 86), .load 1 false (t_ 85), (some (81, false)), false⟩,
 ⟨(some 87), .bi .len [22].toArray 3 [(t_ 86)], (some (81, false)), false⟩,
 ⟨(some 88), .bin .geq 3 (t_ 83) (t_ 87), (some (81, false)), false⟩,
 (q_ 89 (.pick (t_ 81) (.const (.bool true)) (t_ 88)))]
/-- (patchbay/expr.Scope).primary -/
def ac37 : AC :=
 .seq (.region false [(q_ 2 (.box false 46 (t_ 0))),
 (q_ 3 (.box false 69 (t_ 1))),
 (q_ 4 (.move (k_ 0))),
 (q_ 5 (.move (k_ 0)))])
 (.seq (.seq (.region false [(q_ 10 (.faddr 0 1 false (t_ 3))),
 (q_ 11 (.load 1 false (t_ 10)))])
 (.block 0 (.seq (.region false [(q_ 13 (.bin .eql 3 (t_ 11) (k_ 1))),
 (q_ 12 (.move (t_ 13)))])
 (.cond (t_ 12)
 (.seq (.region false [(q_ 15 (.faddr 2 1 false (t_ 3))),
 (q_ 16 (.load 1 false (t_ 15))),
 (q_ 17 (.call (.func 49) [(t_ 16)])),
 (q_ 14 (.move (t_ 17))),
 (q_ 18 (.extract (t_ 14) 0)),
 (q_ 19 (.extract (t_ 14) 1)),
 (q_ 6 (.move (t_ 18))),
 (q_ 7 (.move (t_ 19)))])
 (.seq (.seq (.region true ((q_ 20 (.move (t_ 7))) :: (q_ 21 (.bin .eql 42 (t_ 20) (k_ 0))) :: (q_ 22 (.move (t_ 21))) :: (ac37_G1 ++ [])))
 (.cond (t_ 34)
 (.seq (.region false [(q_ 4 (.move (k_ 0))),
 (q_ 5 (.move (k_ 9)))])
 (.ret))
 (.skip)))
 (.seq (.region false [(q_ 35 (.move (t_ 6))),
 (q_ 36 (.move (t_ 7))),
 (q_ 4 (.move (t_ 35))),
 (q_ 5 (.move (t_ 36)))])
 (.ret))))
 (.seq (.region false [(q_ 38 (.bin .eql 3 (t_ 11) (k_ 2))),
 (q_ 37 (.move (t_ 38)))])
 (.cond (t_ 37)
 (.seq (.region false [(q_ 40 (.load 10 true (t_ 2))),
 (q_ 41 (.faddr 1 1 false (t_ 3))),
 (q_ 42 (.load 1 false (t_ 41))),
 (q_ 43 (.faddr 2 1 false (t_ 3))),
 (q_ 44 (.load 1 false (t_ 43))),
 (q_ 45 (.call (.func 51) [(t_ 40), (t_ 42), (t_ 44)])),
 (q_ 39 (.move (t_ 45))),
 (q_ 46 (.extract (t_ 39) 0)),
 (q_ 47 (.extract (t_ 39) 1)),
 ⟨(some 8), .alloc true 65 (.agg [(.string ⟨[].toArray⟩), (.int .i64 0)].toArray), none, false⟩,
 ⟨none, .store 2 (t_ 8) (t_ 46), none, false⟩,
 (q_ 9 (.move (t_ 47)))])
 (.seq (.seq (.region false [(q_ 48 (.move (t_ 9))),
 (q_ 49 (.un .not (t_ 48)))])
 (.cond (t_ 49)
 (.seq (.region false [(q_ 4 (.move (k_ 0))),
 (q_ 5 (.move (k_ 8)))])
 (.ret))
 (.skip)))
 (.seq (.region false [(q_ 50 (.faddr 1 1 false (t_ 8))),
 (q_ 51 (.load 1 false (t_ 50))),
 (q_ 52 (.call (.func 49) [(t_ 51)])),
 (q_ 53 (.extract (t_ 52) 0)),
 (q_ 54 (.extract (t_ 52) 1)),
 (q_ 4 (.move (t_ 53))),
 (q_ 5 (.move (t_ 54)))])
 (.ret))))
 (.seq (.region false [(q_ 56 (.bin .eql 3 (t_ 11) (k_ 3))),
 (q_ 55 (.move (t_ 56)))])
 (.cond (t_ 55)
 (.seq (.seq (.region false ((q_ 57 (.faddr 1 1 false (t_ 3))) :: (q_ 58 (.load 1 false (t_ 57))) :: (q_ 59 (.bin .lss 3 (t_ 58) (k_ 0))) :: (q_ 60 (.move (t_ 59))) :: (ac37_G3 ++ [])))
 (.cond (t_ 67)
 (.seq (.region false [(q_ 4 (.move (k_ 0))),
 (q_ 5 (.move (k_ 8)))])
 (.ret))
 (.skip)))
 (.seq (.region false [(q_ 68 (.faddr 9 1 false (t_ 2))),
 (q_ 69 (.load 1 false (t_ 68))),
 (q_ 70 (.faddr 1 1 false (t_ 3))),
 (q_ 71 (.load 1 false (t_ 70))),
 (q_ 72 (.iaddr 2 (t_ 69) (t_ 71))),
 (q_ 73 (.faddr 1 1 false (t_ 72))),
 (q_ 74 (.load 1 false (t_ 73))),
 (q_ 75 (.call (.func 49) [(t_ 74)])),
 (q_ 76 (.extract (t_ 75) 0)),
 (q_ 77 (.extract (t_ 75) 1)),
 (q_ 4 (.move (t_ 76))),
 (q_ 5 (.move (t_ 77)))])
 (.ret)))
 (.skip)))))))))
 (.seq (.seq (.region false ((q_ 78 (.faddr 1 1 false (t_ 3))) :: (q_ 79 (.load 1 false (t_ 78))) :: (q_ 80 (.bin .lss 3 (t_ 79) (k_ 0))) :: (q_ 81 (.move (t_ 80))) :: (ac37_G4 ++ [])))
 (.cond (t_ 89)
 (.seq (.region false [(q_ 4 (.move (k_ 0))),
 (q_ 5 (.move (k_ 8)))])
 (.ret))
 (.skip)))
 (.seq (.region false [(q_ 4 (.move (k_ 1))),
 (q_ 5 (.move (k_ 0)))])
 (.ret))))
theorem text37 : FnText Try.prog 37 [8] 90 2 ac37 [(4, none), (5, none)] :=
 ⟨Try.call37, follows, Try.f37, _, Try.func37, rfl, rfl, by decide, by kernel_rfl, by kernel_rfl⟩

def ac38_G1 : List AOper :=
 [⟨(some 17), .faddr 1 1 false (t_ 2), (some (16, false)), false⟩,
 ⟨(some 18), .load 1 false (t_ 17), (some (16, false)), false⟩,
 ⟨(some 19), .bin .gtr 3 (t_ 18) (k_ 31), (some (16, false)), false⟩,
 (q_ 20 (.pick (t_ 16) (.const (.bool true)) (t_ 19)))]
def ac38_G2 : List AOper :=
 [⟨(some 35), .faddr 1 1 false (t_ 2), (some (34, false)), false⟩,
 ⟨(some 36), .load 1 false (t_ 35), (some (34, false)), false⟩,
 ⟨(some 37), .iaddrA 3 1 false (t_ 3) (k_ 0), (some (34, false)), false⟩,
 ⟨(some 38), .load 1 false (t_ 37), (some (34, false)), false⟩,
 ⟨(some 39), .faddr 2 1 false (t_ 2), (some (34, false)), false⟩,
 ⟨(some 40), .load 1 false (t_ 39), (some (34, false)), false⟩,
 ⟨(some 41), .bin .sub 3 (t_ 38) (t_ 40), (some (34, false)), false⟩,
 ⟨(some 42), .bin .gtr 3 (t_ 36) (t_ 41), (some (34, false)), false⟩,
 (q_ 43 (.pick (t_ 34) (.const (.bool true)) (t_ 42)))]
def ac38_G3 : List AOper :=
 [⟨(some 62), .iaddrA 3 1 false (t_ 3) (k_ 1), (some (61, false)), false⟩,
 ⟨(some 63), .load 1 false (t_ 62), (some (61, false)), false⟩,
 ⟨(some 64), .iaddrA 3 1 false (t_ 3) (k_ 2), (some (61, false)), false⟩,
 ⟨(some 65), .load 1 false (t_ 64), (some (61, false)), false⟩,
 ⟨(some 66), .bin .neq 3 (t_ 63) (t_ 65), (some (61, false)), false⟩,
 (q_ 67 (.pick (t_ 61) (.const (.bool true)) (t_ 66)))]
def ac38_G4 : List AOper :=
 [⟨(some 75), .iaddrA 3 1 false (t_ 3) (k_ 0), (some (74, true)), false⟩,
 ⟨(some 76), .load 1 false (t_ 75), (some (74, true)), false⟩,
 ⟨(some 77), .iaddrA 3 1 false (t_ 3) (k_ 1), (some (74, true)), false⟩,
 ⟨(some 78), .load 1 false (t_ 77), (some (74, true)), false⟩,
 ⟨(some 79), .bin .neq 3 (t_ 76) (t_ 78), (some (74, true)), false⟩,
 (q_ 80 (.pick (t_ 74) (t_ 79) (.const (.bool false))))]
def ac38_G5 : List AOper :=
 [⟨(some 85), .faddr 0 1 false (t_ 2), (some (84, false)), false⟩,
 ⟨(some 86), .load 1 false (t_ 85), (some (84, false)), false⟩,
 ⟨(some 87), .bin .eql 3 (t_ 86) (k_ 16), (some (84, false)), false⟩,
 (q_ 88 (.pick (t_ 84) (.const (.bool true)) (t_ 87)))]
/-- patchbay/expr.combine -/
def ac38 : AC :=
 .seq (.region false [(q_ 2 (.box false 69 (t_ 0))),
 (q_ 3 (.box false 91 (t_ 1))),
 (q_ 4 (.move (k_ 0))),
 (q_ 5 (.move (k_ 0)))])
 (.seq (.seq (.region false [(q_ 8 (.faddr 0 1 false (t_ 2))),
 (q_ 9 (.load 1 false (t_ 8)))])
 (.block 0 (.seq (.seq (.region false [(q_ 11 (.bin .eql 3 (t_ 9) (k_ 6))),
 (q_ 10 (.move (t_ 11)))])
 (.cond (t_ 10)
 (.skip)
 (.region false [(q_ 12 (.bin .eql 3 (t_ 9) (k_ 7))),
 (q_ 10 (.move (t_ 12)))])))
 (.cond (t_ 10)
 (.seq (.region false ((q_ 13 (.faddr 1 1 false (t_ 2))) :: (q_ 14 (.load 1 false (t_ 13))) :: (q_ 15 (.bin .lss 3 (t_ 14) (k_ 0))) :: (q_ 16 (.move (t_ 15))) :: (ac38_G1 ++ [])))
 (.cond (t_ 20)
 (.seq (.region false [(q_ 4 (.move (k_ 0))),
 (q_ 5 (.move (k_ 9)))])
 (.ret))
 (.skip)))
 (.seq (.region false [(q_ 22 (.bin .eql 3 (t_ 9) (k_ 8))),
 (q_ 21 (.move (t_ 22)))])
 (.cond (t_ 21)
 (.seq (.seq (.region false [(q_ 23 (.faddr 1 1 false (t_ 2))),
 (q_ 24 (.load 1 false (t_ 23))),
 (q_ 25 (.bin .lss 3 (t_ 24) (k_ 0)))])
 (.cond (t_ 25)
 (.seq (.region false [(q_ 4 (.move (k_ 0))),
 (q_ 5 (.move (k_ 9)))])
 (.ret))
 (.skip)))
 (.seq (.seq (.region false [(q_ 27 (.faddr 2 1 false (t_ 2))),
 (q_ 28 (.load 1 false (t_ 27))),
 (q_ 29 (.call (.func 49) [(t_ 28)])),
 (q_ 26 (.move (t_ 29))),
 (q_ 30 (.extract (t_ 26) 0)),
 (q_ 31 (.extract (t_ 26) 1)),
 (q_ 6 (.move (t_ 30))),
 (q_ 7 (.move (t_ 31)))])
 (.seq (.region false ((q_ 32 (.move (t_ 7))) :: (q_ 33 (.bin .neq 42 (t_ 32) (k_ 0))) :: (q_ 34 (.move (t_ 33))) :: (ac38_G2 ++ [])))
 (.cond (t_ 43)
 (.seq (.region false [(q_ 4 (.move (k_ 0))),
 (q_ 5 (.move (k_ 10)))])
 (.ret))
 (.skip))))
 (.seq (.region false [(q_ 44 (.faddr 2 1 false (t_ 2))),
 (q_ 45 (.load 1 false (t_ 44))),
 (q_ 4 (.move (t_ 45))),
 (q_ 5 (.move (k_ 0)))])
 (.ret))))
 (.seq (.region false [(q_ 47 (.bin .eql 3 (t_ 9) (k_ 14))),
 (q_ 46 (.move (t_ 47)))])
 (.cond (t_ 46)
 (.seq (.region false [(q_ 48 (.iaddrA 3 1 false (t_ 3) (k_ 0))),
 (q_ 49 (.load 1 false (t_ 48))),
 (q_ 50 (.iaddrA 3 1 false (t_ 3) (k_ 1))),
 (q_ 51 (.load 1 false (t_ 50))),
 (q_ 52 (.bin .add 3 (t_ 49) (t_ 51))),
 (q_ 53 (.call (.func 49) [(t_ 52)])),
 (q_ 54 (.extract (t_ 53) 0)),
 (q_ 55 (.extract (t_ 53) 1)),
 (q_ 4 (.move (t_ 54))),
 (q_ 5 (.move (t_ 55)))])
 (.ret))
 (.seq (.region false [(q_ 57 (.bin .eql 3 (t_ 9) (k_ 17))),
 (q_ 56 (.move (t_ 57)))])
 (.cond (t_ 56)
 (.seq (.seq (.region false ((q_ 58 (.iaddrA 3 1 false (t_ 3) (k_ 0))) :: (q_ 59 (.load 1 false (t_ 58))) :: (q_ 60 (.bin .neq 3 (t_ 59) (k_ 1))) :: (q_ 61 (.move (t_ 60))) :: (ac38_G3 ++ [])))
 (.cond (t_ 67)
 (.seq (.region false [(q_ 4 (.move (k_ 0))),
 (q_ 5 (.move (k_ 10)))])
 (.ret))
 (.skip)))
 (.seq (.region false [(q_ 68 (.iaddrA 3 1 false (t_ 3) (k_ 1))),
 (q_ 69 (.load 1 false (t_ 68))),
 (q_ 4 (.move (t_ 69))),
 (q_ 5 (.move (k_ 0)))])
 (.ret)))
 (.skip)))))))))))
 (.seq (.seq (.region false ((q_ 70 (.faddr 0 1 false (t_ 2))) :: (q_ 71 (.load 1 false (t_ 70))) :: (q_ 72 (.call (.func 23) [(t_ 71)])) :: (q_ 73 (.bin .eql 3 (t_ 72) (k_ 2))) :: (q_ 74 (.move (t_ 73))) :: (ac38_G4 ++ [])))
 (.cond (t_ 80)
 (.seq (.region false [(q_ 4 (.move (k_ 0))),
 (q_ 5 (.move (k_ 10)))])
 (.ret))
 (.skip)))
 (.seq (.seq (.region false ((q_ 81 (.faddr 0 1 false (t_ 2))) :: (q_ 82 (.load 1 false (t_ 81))) :: (q_ 83 (.bin .eql 3 (t_ 82) (k_ 15))) :: (q_ 84 (.move (t_ 83))) :: (ac38_G5 ++ [])))
 (.cond (t_ 88)
 (.seq (.region false [(q_ 4 (.move (k_ 1))),
 (q_ 5 (.move (k_ 0)))])
 (.ret))
 (.skip)))
 (.seq (.region false [(q_ 89 (.iaddrA 3 1 false (t_ 3) (k_ 0))),
 (q_ 90 (.load 1 false (t_ 89))),
 (q_ 4 (.move (t_ 90))),
 (q_ 5 (.move (k_ 0)))])
 (.ret)))))
theorem text38 : FnText Try.prog 38 [] 91 2 ac38 [(4, none), (5, none)] :=
 ⟨Try.call38, follows, Try.f38, _, Try.func38, rfl, rfl, by decide, by kernel_rfl, by kernel_rfl⟩

def ac21_L1 : AC :=
 .seq (.region false [(q_ 45 (.bin .lss 3 (t_ 44) (t_ 43)))])
 (.seq (.cond (t_ 45)
 (.skip)
 (.exit 1))
 (.seq (.block 2 (.seq (.region false [(q_ 46 (.move (t_ 44))),
 (q_ 11 (.move (t_ 46)))])
 (.seq (.region false [(q_ 48 (.move (t_ 11))),
 (q_ 49 (.load 10 true (t_ 3))),
 (q_ 50 (.move (t_ 1))),
 (q_ 51 (.move (t_ 7))),
 (q_ 52 (.call (.func 21) [(t_ 49), (t_ 50), (t_ 51)])),
 (q_ 47 (.move (t_ 52))),
 (q_ 53 (.extract (t_ 47) 0)),
 (q_ 54 (.extract (t_ 47) 1)),
 (q_ 55 (.extract (t_ 47) 2)),
 (q_ 56 (.iaddrA 3 1 false (t_ 10) (t_ 48))),
 ⟨none, .store 1 (t_ 56) (t_ 53), none, false⟩,
 (q_ 7 (.move (t_ 54))),
 (q_ 8 (.move (t_ 55)))])
 (.seq (.region false [(q_ 57 (.move (t_ 8))),
 (q_ 58 (.bin .neq 42 (t_ 57) (k_ 0)))])
 (.cond (t_ 58)
 (.seq (.region false [(q_ 59 (.move (t_ 8))),
 (q_ 6 (.move (k_ 0))),
 (q_ 7 (.move (k_ 0))),
 (q_ 8 (.move (t_ 59)))])
 (.ret))
 (.skip))))))
 (.region false [(q_ 60 (.bin .add 3 (t_ 44) (k_ 1))),
 (q_ 44 (.move (t_ 60)))])))
/-- (patchbay/expr.Scope).check -/
def ac21 : AC :=
 .seq (.region false [(q_ 3 (.box false 46 (t_ 0))),
 (q_ 6 (.move (k_ 0))),
 (q_ 7 (.move (k_ 0))),
 (q_ 8 (.move (k_ 0)))])
 (.seq (.seq (.region false [(q_ 12 (.move (t_ 2))),
 (q_ 13 (.move (t_ 1))),
 (q_ 14 (.bi .len [32].toArray 3 [(t_ 13)])),
 (q_ 15 (.bin .geq 3 (t_ 12) (t_ 14)))])
 (.cond (t_ 15)
 (.seq (.region false [(q_ 6 (.move (k_ 0))),
 (q_ 7 (.move (k_ 0))),
 (q_ 8 (.move (k_ 3)))])
 (.ret))
 (.skip)))
 (.seq (.region false [(q_ 16 (.move (t_ 1))),
 (q_ 17 (.move (t_ 2))),
 (q_ 18 (.iaddr 3 (t_ 16) (t_ 17))),
 (q_ 19 (.faddr 0 1 false (t_ 18))),
 (q_ 20 (.load 1 false (t_ 19))),
 (q_ 21 (.call (.func 23) [(t_ 20)])),
 (q_ 9 (.move (t_ 21)))])
 (.seq (.block 0 (.seq (.region false [(q_ 23 (.move (t_ 9))),
 (q_ 24 (.bin .lss 3 (t_ 23) (k_ 0))),
 (q_ 22 (.move (t_ 24)))])
 (.cond (t_ 22)
 (.seq (.region false [(q_ 6 (.move (k_ 0))),
 (q_ 7 (.move (k_ 0))),
 (q_ 8 (.move (k_ 11)))])
 (.ret))
 (.seq (.region false [(q_ 26 (.move (t_ 9))),
 (q_ 27 (.bin .eql 3 (t_ 26) (k_ 0))),
 (q_ 25 (.move (t_ 27)))])
 (.cond (t_ 25)
 (.seq (.region true [(q_ 29 (.load 10 true (t_ 3))),
 (q_ 30 (.move (t_ 1))),
 (q_ 31 (.move (t_ 2))),
 (q_ 32 (.iaddr 3 (t_ 30) (t_ 31))),
 (q_ 33 (.load 3 true (t_ 32))),
 (q_ 34 (.call (.func 37) [(t_ 29), (t_ 33)])),
 (q_ 28 (.move (t_ 34))),
 (q_ 35 (.extract (t_ 28) 0)),
 (q_ 36 (.extract (t_ 28) 1)),
 (q_ 6 (.move (t_ 35))),
 (q_ 8 (.move (t_ 36)))])
 (.seq (.region false [(q_ 37 (.move (t_ 6))),
 (q_ 38 (.move (t_ 2))),
 (q_ 39 (.bin .add 3 (t_ 38) (k_ 1))),
 (q_ 40 (.move (t_ 8))),
 (q_ 6 (.move (t_ 37))),
 (q_ 7 (.move (t_ 39))),
 (q_ 8 (.move (t_ 40)))])
 (.ret)))
 (.skip))))))
 (.seq (.region false [(q_ 10 (.alloc true 91 (.agg [(.int .i64 0), (.int .i64 0), (.int .i64 0)].toArray)))])
 (.seq (.region false [(q_ 41 (.move (t_ 2))),
 (q_ 42 (.bin .add 3 (t_ 41) (k_ 1))),
 (q_ 7 (.move (t_ 42)))])
 (.seq (.seq (.region false [(q_ 43 (.move (t_ 9))),
 (q_ 44 (.move (k_ 0)))])
 (.block 1 (.loop ac21_L1)))
 (.seq (.region true [(q_ 62 (.move (t_ 1))),
 (q_ 63 (.move (t_ 2))),
 (q_ 64 (.iaddr 3 (t_ 62) (t_ 63))),
 (q_ 65 (.load 3 true (t_ 64))),
 (q_ 66 (.load 3 true (t_ 10))),
 (q_ 67 (.call (.func 38) [(t_ 65), (t_ 66)])),
 (q_ 61 (.move (t_ 67))),
 (q_ 68 (.extract (t_ 61) 0)),
 (q_ 69 (.extract (t_ 61) 1)),
 (q_ 6 (.move (t_ 68))),
 (q_ 8 (.move (t_ 69)))])
 (.seq (.region false [(q_ 70 (.move (t_ 6))),
 (q_ 71 (.move (t_ 7))),
 (q_ 72 (.move (t_ 8))),
 (q_ 6 (.move (t_ 70))),
 (q_ 7 (.move (t_ 71))),
 (q_ 8 (.move (t_ 72)))])
 (.ret)))))))))
theorem text21 : FnText Try.prog 21 [10] 73 3 ac21 [(6, none), (7, none), (8, none)] :=
 ⟨Try.call21, follows, Try.f21, _, Try.func21, rfl, rfl, by decide, by kernel_rfl, by kernel_rfl⟩


/-- patchbay/expr.Check -/
def ac6 : AC :=
 .seq (.region false [(q_ 3 (.box false 46 (t_ 1))),
 (q_ 4 (.move (k_ 0))),
 (q_ 5 (.move (k_ 0)))])
 (.seq (.seq (.region false [(q_ 7 (.move (t_ 0))),
 (q_ 8 (.bi .len [32].toArray 3 [(t_ 7)])),
 (q_ 9 (.bin .gtr 3 (t_ 8) (k_ 24)))])
 (.cond (t_ 9)
 (.seq (.region false [(q_ 4 (.move (k_ 0))),
 (q_ 5 (.move (k_ 12)))])
 (.ret))
 (.skip)))
 (.seq (.region false [(q_ 11 (.load 10 true (t_ 3))),
 (q_ 12 (.move (t_ 0))),
 (q_ 13 (.call (.func 21) [(t_ 11), (t_ 12), (k_ 0)])),
 (q_ 10 (.move (t_ 13))),
 (q_ 14 (.extract (t_ 10) 0)),
 (q_ 15 (.extract (t_ 10) 1)),
 (q_ 16 (.extract (t_ 10) 2)),
 (q_ 4 (.move (t_ 14))),
 (q_ 6 (.move (t_ 15))),
 (q_ 5 (.move (t_ 16)))])
 (.seq (.block 0 (.seq (.region false [(q_ 18 (.move (t_ 5))),
 (q_ 19 (.bin .neq 42 (t_ 18) (k_ 0))),
 (q_ 17 (.move (t_ 19)))])
 (.cond (t_ 17)
 (.seq (.region false [(q_ 20 (.move (t_ 5))),
 (q_ 4 (.move (k_ 0))),
 (q_ 5 (.move (t_ 20)))])
 (.ret))
 (.seq (.region false [(q_ 22 (.move (t_ 6))),
 (q_ 23 (.move (t_ 0))),
 (q_ 24 (.bi .len [32].toArray 3 [(t_ 23)])),
 (q_ 25 (.bin .lss 3 (t_ 22) (t_ 24))),
 (q_ 21 (.move (t_ 25)))])
 (.cond (t_ 21)
 (.seq (.region false [(q_ 4 (.move (k_ 0))),
 (q_ 5 (.move (k_ 4)))])
 (.ret))
 (.skip))))))
 (.seq (.region false [(q_ 26 (.move (t_ 4))),
 (q_ 4 (.move (t_ 26))),
 (q_ 5 (.move (k_ 0)))])
 (.ret)))))
theorem text6 : FnText Try.prog 6 [] 27 2 ac6 [(4, none), (5, none)] :=
 ⟨Try.call6, follows, Try.f6, _, Try.func6, rfl, rfl, by decide, by kernel_rfl, by kernel_rfl⟩

def ac97_G1 : List AOper :=
 [⟨(some 8), .move (t_ 1), (some (7, true)), false⟩,
 ⟨(some 9), .move (t_ 0), (some (7, true)), false⟩,
 ⟨(some 10), .bi .len [35].toArray 3 [(t_ 9)], (some (7, true)), false⟩,
 ⟨(some 11), .bin .lss 3 (t_ 8) (t_ 10), (some (7, true)), false⟩,
 (q_ 12 (.pick (t_ 7) (t_ 11) (.const (.bool false))))]
/-- patchbay/env.in[uint32] -/
def ac97 : AC :=
 .seq (.region false [(q_ 4 (.move (.const (.bool false))))])
 (.seq (.region false ((q_ 5 (.move (t_ 1))) :: (q_ 6 (.bin .geq 3 (t_ 5) (k_ 0))) :: (q_ 7 (.move (t_ 6))) :: (ac97_G1 ++ [(q_ 4 (.move (t_ 12)))])))
 (.ret))
theorem text97 : FnText Try.prog 97 [] 13 2 ac97 [(4, none)] :=
 ⟨Try.call97, follows, Try.f97, _, Try.func97, rfl, rfl, by decide, by kernel_rfl, by kernel_rfl⟩

def ac98_G1 : List AOper :=
 [⟨(some 9), .move (t_ 1), (some (8, false)), false⟩,
 ⟨(some 10), .move (t_ 0), (some (8, false)), false⟩,
 ⟨(some 11), .bi .len [34].toArray 3 [(t_ 10)], (some (8, false)), false⟩,
 ⟨(some 12), .bin .geq 3 (t_ 9) (t_ 11), (some (8, false)), false⟩,
 (q_ 13 (.pick (t_ 8) (.const (.bool true)) (t_ 12)))]
/-- patchbay/env.at[[]uint32] -/
def ac98 : AC :=
 .seq (.region false [(q_ 4 (.move (.const (.slice none 0 0))))])
 (.seq (.region false [(q_ 5 (.move (.const (.slice none 0 0))))])
 (.seq (.seq (.region false ((q_ 6 (.move (t_ 1))) :: (q_ 7 (.bin .lss 3 (t_ 6) (k_ 0))) :: (q_ 8 (.move (t_ 7))) :: (ac98_G1 ++ [])))
 (.cond (t_ 13)
 (.seq (.region false [(q_ 14 (.move (t_ 5))),
 (q_ 4 (.move (t_ 14)))])
 (.ret))
 (.skip)))
 (.seq (.region false [(q_ 15 (.move (t_ 0))),
 (q_ 16 (.move (t_ 1))),
 (q_ 17 (.iaddr 1 (t_ 15) (t_ 16))),
 (q_ 18 (.load 1 false (t_ 17))),
 (q_ 4 (.move (t_ 18)))])
 (.ret))))
theorem text98 : FnText Try.prog 98 [] 19 2 ac98 [(4, none)] :=
 ⟨Try.call98, follows, Try.f98, _, Try.func98, rfl, rfl, by decide, by kernel_rfl, by kernel_rfl⟩

def ac99_G1 : List AOper :=
 [⟨(some 9), .move (t_ 1), (some (8, false)), false⟩,
 ⟨(some 10), .move (t_ 0), (some (8, false)), false⟩,
 ⟨(some 11), .bi .len [33].toArray 3 [(t_ 10)], (some (8, false)), false⟩,
 ⟨(some 12), .bin .geq 3 (t_ 9) (t_ 11), (some (8, false)), false⟩,
 (q_ 13 (.pick (t_ 8) (.const (.bool true)) (t_ 12)))]
/-- patchbay/env.at[bool] -/
def ac99 : AC :=
 .seq (.region false [(q_ 4 (.move (.const (.bool false))))])
 (.seq (.region false [(q_ 5 (.move (.const (.bool false))))])
 (.seq (.seq (.region false ((q_ 6 (.move (t_ 1))) :: (q_ 7 (.bin .lss 3 (t_ 6) (k_ 0))) :: (q_ 8 (.move (t_ 7))) :: (ac99_G1 ++ [])))
 (.cond (t_ 13)
 (.seq (.region false [(q_ 14 (.move (t_ 5))),
 (q_ 4 (.move (t_ 14)))])
 (.ret))
 (.skip)))
 (.seq (.region false [(q_ 15 (.move (t_ 0))),
 (q_ 16 (.move (t_ 1))),
 (q_ 17 (.iaddr 1 (t_ 15) (t_ 16))),
 (q_ 18 (.load 1 false (t_ 17))),
 (q_ 4 (.move (t_ 18)))])
 (.ret))))
theorem text99 : FnText Try.prog 99 [] 19 2 ac99 [(4, none)] :=
 ⟨Try.call99, follows, Try.f99, _, Try.func99, rfl, rfl, by decide, by kernel_rfl, by kernel_rfl⟩

def ac94_G1 : List AOper :=
 [⟨(some 31), .move (t_ 6), (some (30, true)), false⟩,
 ⟨(some 32), .faddr 1 1 false (t_ 3), (some (30, true)), false⟩,
 ⟨(some 33), .load 1 false (t_ 32), (some (30, true)), false⟩,
 ⟨(some 34), .call (.func 97) [(t_ 31), (t_ 33)], (some (30, true)), false⟩,
 (q_ 35 (.pick (t_ 30) (t_ 34) (.const (.bool false))))]
/-- patchbay/env.element -/
def ac94 : AC :=
 .seq (.region false [(q_ 2 (.box false 38 (t_ 0))),
 (q_ 3 (.box false 60 (t_ 1))),
 (q_ 4 (.move (.const (.slice none 0 0)))),
 (q_ 5 (.move (.const (.bool false))))])
 (.seq (.seq (.region false [(q_ 7 (.load 2 true (t_ 3))),
 (q_ 8 (.faddr 1 1 false (t_ 3))),
 (q_ 9 (.load 1 false (t_ 8))),
 (q_ 10 (.build [(.int .i64 0), (.int .i64 0)] [(0, 1, (.const (.int .i64 (-1)))), (1, 1, (t_ 9))])),
 (q_ 11 (.bin .eql 60 (t_ 7) (t_ 10)))])
 (.cond (t_ 11)
 (.seq (.region true [(q_ 12 (.faddr 2 1 false (t_ 2))),
 (q_ 13 (.load 1 false (t_ 12))),
 (q_ 14 (.faddr 2 1 false (t_ 2))),
 (q_ 15 (.load 1 false (t_ 14))),
 (q_ 16 (.faddr 1 1 false (t_ 3))),
 (q_ 17 (.load 1 false (t_ 16))),
 (q_ 18 (.call (.func 97) [(t_ 15), (t_ 17)])),
 (q_ 4 (.move (t_ 13))),
 (q_ 5 (.move (t_ 18)))])
 (.ret))
 (.skip)))
 (.seq (.region false [(q_ 19 (.faddr 1 1 false (t_ 2))),
 (q_ 20 (.load 1 false (t_ 19))),
 (q_ 21 (.faddr 0 1 false (t_ 3))),
 (q_ 22 (.load 1 false (t_ 21))),
 (q_ 23 (.call (.func 98) [(t_ 20), (t_ 22)])),
 (q_ 6 (.move (t_ 23)))])
 (.seq (.region false ((q_ 24 (.move (t_ 6))) :: (q_ 25 (.faddr 0 1 false (t_ 2))) :: (q_ 26 (.load 1 false (t_ 25))) :: (q_ 27 (.faddr 0 1 false (t_ 3))) :: (q_ 28 (.load 1 false (t_ 27))) :: (q_ 29 (.call (.func 99) [(t_ 26), (t_ 28)])) :: (q_ 30 (.move (t_ 29))) :: (ac94_G1 ++ [(q_ 4 (.move (t_ 24))),
 (q_ 5 (.move (t_ 35)))])))
 (.ret))))
theorem text94 : FnText Try.prog 94 [] 36 2 ac94 [(4, none), (5, none)] :=
 ⟨Try.call94, follows, Try.f94, _, Try.func94, rfl, rfl, by decide, by kernel_rfl, by kernel_rfl⟩


/-- patchbay/env.Get -/
def ac74 : AC :=
 .seq (.region false [(q_ 2 (.box false 38 (t_ 0))),
 (q_ 3 (.box false 60 (t_ 1))),
 (q_ 4 (.move (.const (.int .u32 0))))])
 (.seq (.region false [(q_ 8 (.load 4 true (t_ 2))),
 (q_ 9 (.load 2 true (t_ 3))),
 (q_ 10 (.call (.func 94) [(t_ 8), (t_ 9)])),
 (q_ 7 (.move (t_ 10))),
 (q_ 11 (.extract (t_ 7) 0)),
 (q_ 12 (.extract (t_ 7) 1)),
 (q_ 5 (.move (t_ 11))),
 (q_ 6 (.move (t_ 12)))])
 (.seq (.seq (.region false [(q_ 13 (.move (t_ 6))),
 (q_ 14 (.un .not (t_ 13)))])
 (.cond (t_ 14)
 (.seq (.region false [(q_ 4 (.move (.const (.int .u32 0))))])
 (.ret))
 (.skip)))
 (.seq (.region false [(q_ 15 (.move (t_ 5))),
 (q_ 16 (.faddr 1 1 false (t_ 3))),
 (q_ 17 (.load 1 false (t_ 16))),
 (q_ 18 (.iaddr 1 (t_ 15) (t_ 17))),
 (q_ 19 (.load 1 false (t_ 18))),
 (q_ 4 (.move (t_ 19)))])
 (.ret))))
theorem text74 : FnText Try.prog 74 [] 20 2 ac74 [(4, none)] :=
 ⟨Try.call74, follows, Try.f74, _, Try.func74, rfl, rfl, by decide, by kernel_rfl, by kernel_rfl⟩

def ac46_G1 : List AOper :=
 [⟨(some 66), .move (t_ 0), (some (65, true)), false⟩,
 ⟨(some 67), .nilCheck (t_ 66), (some (65, true)), false⟩,
 ⟨(some 68), .faddr 10 4 true (t_ 67), (some (65, true)), false⟩,
 ⟨(some 69), .faddr 0 1 false (t_ 68), (some (65, true)), false⟩,
 ⟨(some 70), .load 1 false (t_ 69), (some (65, true)), false⟩,
 ⟨(some 71), .faddr 1 1 false (t_ 3), (some (65, true)), false⟩,
 ⟨(some 72), .load 1 false (t_ 71), (some (65, true)), false⟩,
 ⟨(some 73), .iaddr 1 (t_ 70) (t_ 72), (some (65, true)), false⟩,
 ⟨(some 74), .load 1 false (t_ 73), (some (65, true)), false⟩,
 (q_ 75 (.pick (t_ 65) (t_ 74) (.const (.bool false))))]
/-- (*patchbay/expr.machine).load -/
def ac46 : AC :=
 .seq (.region false [(q_ 3 (.box false 69 (t_ 1))),
 (q_ 4 (.alloc true 88 (.agg [(.int .u32 0), (.int .i64 0)].toArray)))])
 (.seq (.region true [(q_ 9 (.move (t_ 0))),
 (q_ 10 (.nilCheck (t_ 9))),
 (q_ 11 (.faddr 0 10 true (t_ 10))),
 (q_ 12 (.load 10 true (t_ 11))),
 (q_ 13 (.load 3 true (t_ 3))),
 (q_ 14 (.call (.func 37) [(t_ 12), (t_ 13)])),
 (q_ 8 (.move (t_ 14))),
 (q_ 15 (.extract (t_ 8) 0)),
 (q_ 16 (.extract (t_ 8) 1)),
 (q_ 5 (.move (t_ 15))),
 (q_ 6 (.move (t_ 16)))])
 (.seq (.region false [(q_ 7 (.move (.const (.int .u32 0))))])
 (.seq (.seq (.region false [(q_ 17 (.faddr 0 1 false (t_ 3))),
 (q_ 18 (.load 1 false (t_ 17)))])
 (.block 0 (.seq (.region false [(q_ 20 (.bin .eql 3 (t_ 18) (k_ 1))),
 (q_ 19 (.move (t_ 20)))])
 (.cond (t_ 19)
 (.region false [(q_ 21 (.faddr 1 1 false (t_ 3))),
 (q_ 22 (.load 1 false (t_ 21))),
 (q_ 23 (.conv 3 57 (t_ 22))),
 (q_ 7 (.move (t_ 23)))])
 (.seq (.region false [(q_ 25 (.bin .eql 3 (t_ 18) (k_ 2))),
 (q_ 24 (.move (t_ 25)))])
 (.cond (t_ 24)
 (.region true [(q_ 26 (.move (t_ 0))),
 (q_ 27 (.nilCheck (t_ 26))),
 (q_ 28 (.faddr 10 4 true (t_ 27))),
 (q_ 29 (.load 4 true (t_ 28))),
 (q_ 30 (.faddr 1 1 false (t_ 3))),
 (q_ 31 (.load 1 false (t_ 30))),
 (q_ 32 (.faddr 2 1 false (t_ 3))),
 (q_ 33 (.load 1 false (t_ 32))),
 (q_ 34 (.build [(.int .i64 0), (.int .i64 0)] [(0, 1, (t_ 31)), (1, 1, (t_ 33))])),
 (q_ 35 (.call (.func 74) [(t_ 29), (t_ 34)])),
 (q_ 7 (.move (t_ 35)))])
 (.seq (.region false [(q_ 37 (.bin .eql 3 (t_ 18) (k_ 3))),
 (q_ 36 (.move (t_ 37)))])
 (.cond (t_ 36)
 (.seq (.region true [(q_ 38 (.faddr 1 1 false (t_ 3))),
 (q_ 39 (.load 1 false (t_ 38))),
 (q_ 40 (.move (t_ 0))),
 (q_ 41 (.nilCheck (t_ 40))),
 (q_ 42 (.faddr 14 1 false (t_ 41))),
 (q_ 43 (.load 1 false (t_ 42))),
 (q_ 44 (.bi .len [35].toArray 3 [(t_ 43)])),
 (q_ 45 (.bin .lss 3 (t_ 39) (t_ 44)))])
 (.cond (t_ 45)
 (.region true [(q_ 46 (.move (t_ 0))),
 (q_ 47 (.nilCheck (t_ 46))),
 (q_ 48 (.faddr 14 1 false (t_ 47))),
 (q_ 49 (.load 1 false (t_ 48))),
 (q_ 50 (.faddr 1 1 false (t_ 3))),
 (q_ 51 (.load 1 false (t_ 50))),
 (q_ 52 (.iaddr 1 (t_ 49) (t_ 51))),
 (q_ 53 (.load 1 false (t_ 52))),
 (q_ 7 (.move (t_ 53)))])
 (.skip)))
 (.seq (.region false [(q_ 55 (.bin .eql 3 (t_ 18) (k_ 4))),
 (q_ 54 (.move (t_ 55)))])
 (.cond (t_ 54)
 (.seq (.region true ((q_ 56 (.faddr 1 1 false (t_ 3))) :: (q_ 57 (.load 1 false (t_ 56))) :: (q_ 58 (.move (t_ 0))) :: (q_ 59 (.nilCheck (t_ 58))) :: (q_ 60 (.faddr 10 4 true (t_ 59))) :: (q_ 61 (.faddr 0 1 false (t_ 60))) :: (q_ 62 (.load 1 false (t_ 61))) :: (q_ 63 (.bi .len [33].toArray 3 [(t_ 62)])) :: (q_ 64 (.bin .lss 3 (t_ 57) (t_ 63))) :: (q_ 65 (.move (t_ 64))) :: (ac46_G1 ++ [])))
 (.cond (t_ 75)
 (.region false [(q_ 7 (.move (.const (.int .u32 1))))])
 (.skip)))
 (.skip)))))))))))
 (.seq (.region false [(q_ 76 (.move (t_ 7))),
 (q_ 77 (.move (t_ 5))),
 (q_ 78 (.call (.func 50) [(t_ 77)])),
 (q_ 79 (.bin .and 57 (t_ 76) (t_ 78))),
 (q_ 80 (.move (t_ 5))),
 (q_ 81 (.build [(.int .u32 0), (.int .i64 0)] [(0, 1, (t_ 79)), (1, 1, (t_ 80))])),
 ⟨none, .store 2 (t_ 4) (t_ 81), none, false⟩])
 (.ret)))))
theorem text46 : FnText Try.prog 46 [4] 82 2 ac46 [(4, some (2, true))] :=
 ⟨Try.call46, follows, Try.f46, _, Try.func46, rfl, rfl, by decide, by kernel_rfl, by kernel_rfl⟩


/-- patchbay/bitvec.Not -/
def ac75 : AC :=
 .seq (.region false [(q_ 4 (.move (.const (.int .u32 0))))])
 (.seq (.region false [(q_ 5 (.move (t_ 0))),
 (q_ 6 (.un .xor (t_ 5))),
 (q_ 7 (.move (t_ 1))),
 (q_ 8 (.call (.func 50) [(t_ 7)])),
 (q_ 9 (.bin .and 57 (t_ 6) (t_ 8))),
 (q_ 4 (.move (t_ 9)))])
 (.ret))
theorem text75 : FnText Try.prog 75 [] 10 2 ac75 [(4, none)] :=
 ⟨Try.call75, follows, Try.f75, _, Try.func75, rfl, rfl, by decide, by kernel_rfl, by kernel_rfl⟩


/-- patchbay/bitvec.Shl -/
def ac76 : AC :=
 .seq (.region false [(q_ 6 (.move (.const (.int .u32 0))))])
 (.seq (.region true [(q_ 7 (.move (t_ 0))),
 (q_ 8 (.move (t_ 1))),
 (q_ 9 (.bi .max [3, 3].toArray 3 [(t_ 8), (k_ 0)])),
 (q_ 10 (.bin .shl 57 (t_ 7) (t_ 9))),
 (q_ 11 (.move (t_ 2))),
 (q_ 12 (.call (.func 50) [(t_ 11)])),
 (q_ 13 (.bin .and 57 (t_ 10) (t_ 12))),
 (q_ 6 (.move (t_ 13)))])
 (.ret))
theorem text76 : FnText Try.prog 76 [] 14 3 ac76 [(6, none)] :=
 ⟨Try.call76, follows, Try.f76, _, Try.func76, rfl, rfl, by decide, by kernel_rfl, by kernel_rfl⟩


/-- patchbay/bitvec.Shr -/
def ac77 : AC :=
 .seq (.region false [(q_ 6 (.move (.const (.int .u32 0))))])
 (.seq (.region false [(q_ 7 (.move (t_ 0))),
 (q_ 8 (.move (t_ 2))),
 (q_ 9 (.call (.func 50) [(t_ 8)])),
 (q_ 10 (.bin .and 57 (t_ 7) (t_ 9))),
 (q_ 11 (.move (t_ 1))),
 (q_ 12 (.bi .max [3, 3].toArray 3 [(t_ 11), (k_ 0)])),
 (q_ 13 (.bin .shr 57 (t_ 10) (t_ 12))),
 (q_ 6 (.move (t_ 13)))])
 (.ret))
theorem text77 : FnText Try.prog 77 [] 14 3 ac77 [(6, none)] :=
 ⟨Try.call77, follows, Try.f77, _, Try.func77, rfl, rfl, by decide, by kernel_rfl, by kernel_rfl⟩

def ac78_G1 : List AOper :=
 [⟨(some 12), .move (t_ 1), (some (11, false)), false⟩,
 ⟨(some 13), .bin .lss 3 (t_ 12) (k_ 0), (some (11, false)), false⟩,
 (q_ 14 (.pick (t_ 11) (.const (.bool true)) (t_ 13)))]
def ac78_G2 : List AOper :=
 [⟨(some 16), .move (t_ 1), (some (15, false)), false⟩,
 ⟨(some 17), .move (t_ 2), (some (15, false)), false⟩,
 ⟨(some 18), .bin .sub 3 (k_ 32) (t_ 17), (some (15, false)), false⟩,
 ⟨(some 19), .bin .gtr 3 (t_ 16) (t_ 18), (some (15, false)), false⟩,
 (q_ 20 (.pick (t_ 15) (.const (.bool true)) (t_ 19)))]
/-- patchbay/bitvec.Slice -/
def ac78 : AC :=
 .seq (.region false [(q_ 6 (.move (.const (.int .u32 0))))])
 (.seq (.seq (.region false ((q_ 7 (.move (t_ 2))) :: (q_ 8 (.bslice false 3 1 false [(t_ 7)])) :: (q_ 9 (.call (.func 83) [(t_ 8)])) :: (q_ 10 (.un .not (t_ 9))) :: (q_ 11 (.move (t_ 10))) :: (ac78_G1 ++ ((q_ 15 (.move (t_ 14))) :: (ac78_G2 ++ [])))))
 (.cond (t_ 20)
 (.seq (.region false [(q_ 6 (.move (.const (.int .u32 0))))])
 (.ret))
 (.skip)))
 (.seq (.region true [(q_ 21 (.move (t_ 0))),
 (q_ 22 (.move (t_ 1))),
 (q_ 23 (.bin .shr 57 (t_ 21) (t_ 22))),
 (q_ 24 (.move (t_ 2))),
 (q_ 25 (.call (.func 50) [(t_ 24)])),
 (q_ 26 (.bin .and 57 (t_ 23) (t_ 25))),
 (q_ 6 (.move (t_ 26)))])
 (.ret)))
theorem text78 : FnText Try.prog 78 [] 27 3 ac78 [(6, none)] :=
 ⟨Try.call78, follows, Try.f78, _, Try.func78, rfl, rfl, by decide, by kernel_rfl, by kernel_rfl⟩


/-- patchbay/expr.unary -/
def ac47 : AC :=
 .seq (.region false [(q_ 2 (.box false 69 (t_ 0))),
 (q_ 3 (.box false 88 (t_ 1))),
 (q_ 4 (.alloc true 88 (.agg [(.int .u32 0), (.int .i64 0)].toArray)))])
 (.seq (.seq (.region false [(q_ 5 (.faddr 0 1 false (t_ 2))),
 (q_ 6 (.load 1 false (t_ 5)))])
 (.block 0 (.seq (.region false [(q_ 8 (.bin .eql 3 (t_ 6) (k_ 5))),
 (q_ 7 (.move (t_ 8)))])
 (.cond (t_ 7)
 (.seq (.region true [(q_ 9 (.faddr 0 1 false (t_ 3))),
 (q_ 10 (.load 1 false (t_ 9))),
 (q_ 11 (.faddr 1 1 false (t_ 3))),
 (q_ 12 (.load 1 false (t_ 11))),
 (q_ 13 (.call (.func 75) [(t_ 10), (t_ 12)])),
 (q_ 14 (.faddr 1 1 false (t_ 3))),
 (q_ 15 (.load 1 false (t_ 14))),
 (q_ 16 (.build [(.int .u32 0), (.int .i64 0)] [(0, 1, (t_ 13)), (1, 1, (t_ 15))])),
 ⟨none, .store 2 (t_ 4) (t_ 16), none, false⟩])
 (.ret))
 (.seq (.region false [(q_ 18 (.bin .eql 3 (t_ 6) (k_ 6))),
 (q_ 17 (.move (t_ 18)))])
 (.cond (t_ 17)
 (.seq (.region true [(q_ 19 (.faddr 0 1 false (t_ 3))),
 (q_ 20 (.load 1 false (t_ 19))),
 (q_ 21 (.faddr 1 1 false (t_ 2))),
 (q_ 22 (.load 1 false (t_ 21))),
 (q_ 23 (.faddr 1 1 false (t_ 3))),
 (q_ 24 (.load 1 false (t_ 23))),
 (q_ 25 (.call (.func 76) [(t_ 20), (t_ 22), (t_ 24)])),
 (q_ 26 (.faddr 1 1 false (t_ 3))),
 (q_ 27 (.load 1 false (t_ 26))),
 (q_ 28 (.build [(.int .u32 0), (.int .i64 0)] [(0, 1, (t_ 25)), (1, 1, (t_ 27))])),
 ⟨none, .store 2 (t_ 4) (t_ 28), none, false⟩])
 (.ret))
 (.seq (.region false [(q_ 30 (.bin .eql 3 (t_ 6) (k_ 7))),
 (q_ 29 (.move (t_ 30)))])
 (.cond (t_ 29)
 (.seq (.region true [(q_ 31 (.faddr 0 1 false (t_ 3))),
 (q_ 32 (.load 1 false (t_ 31))),
 (q_ 33 (.faddr 1 1 false (t_ 2))),
 (q_ 34 (.load 1 false (t_ 33))),
 (q_ 35 (.faddr 1 1 false (t_ 3))),
 (q_ 36 (.load 1 false (t_ 35))),
 (q_ 37 (.call (.func 77) [(t_ 32), (t_ 34), (t_ 36)])),
 (q_ 38 (.faddr 1 1 false (t_ 3))),
 (q_ 39 (.load 1 false (t_ 38))),
 (q_ 40 (.build [(.int .u32 0), (.int .i64 0)] [(0, 1, (t_ 37)), (1, 1, (t_ 39))])),
 ⟨none, .store 2 (t_ 4) (t_ 40), none, false⟩])
 (.ret))
 (.skip)))))))))
 (.seq (.region true [(q_ 41 (.faddr 0 1 false (t_ 3))),
 (q_ 42 (.load 1 false (t_ 41))),
 (q_ 43 (.faddr 1 1 false (t_ 2))),
 (q_ 44 (.load 1 false (t_ 43))),
 (q_ 45 (.faddr 2 1 false (t_ 2))),
 (q_ 46 (.load 1 false (t_ 45))),
 (q_ 47 (.call (.func 78) [(t_ 42), (t_ 44), (t_ 46)])),
 (q_ 48 (.faddr 2 1 false (t_ 2))),
 (q_ 49 (.load 1 false (t_ 48))),
 (q_ 50 (.build [(.int .u32 0), (.int .i64 0)] [(0, 1, (t_ 47)), (1, 1, (t_ 49))])),
 ⟨none, .store 2 (t_ 4) (t_ 50), none, false⟩])
 (.ret)))
theorem text47 : FnText Try.prog 47 [4] 51 2 ac47 [(4, some (2, true))] :=
 ⟨Try.call47, follows, Try.f47, _, Try.func47, rfl, rfl, by decide, by kernel_rfl, by kernel_rfl⟩


/-- patchbay/bitvec.Add -/
def ac79 : AC :=
 .seq (.region false [(q_ 6 (.move (.const (.int .u32 0))))])
 (.seq (.region false [(q_ 7 (.move (t_ 0))),
 (q_ 8 (.move (t_ 1))),
 (q_ 9 (.bin .add 57 (t_ 7) (t_ 8))),
 (q_ 10 (.move (t_ 2))),
 (q_ 11 (.call (.func 50) [(t_ 10)])),
 (q_ 12 (.bin .and 57 (t_ 9) (t_ 11))),
 (q_ 6 (.move (t_ 12)))])
 (.ret))
theorem text79 : FnText Try.prog 79 [] 13 3 ac79 [(6, none)] :=
 ⟨Try.call79, follows, Try.f79, _, Try.func79, rfl, rfl, by decide, by kernel_rfl, by kernel_rfl⟩


/-- patchbay/bitvec.Sub -/
def ac80 : AC :=
 .seq (.region false [(q_ 6 (.move (.const (.int .u32 0))))])
 (.seq (.region false [(q_ 7 (.move (t_ 0))),
 (q_ 8 (.move (t_ 1))),
 (q_ 9 (.bin .sub 57 (t_ 7) (t_ 8))),
 (q_ 10 (.move (t_ 2))),
 (q_ 11 (.call (.func 50) [(t_ 10)])),
 (q_ 12 (.bin .and 57 (t_ 9) (t_ 11))),
 (q_ 6 (.move (t_ 12)))])
 (.ret))
theorem text80 : FnText Try.prog 80 [] 13 3 ac80 [(6, none)] :=
 ⟨Try.call80, follows, Try.f80, _, Try.func80, rfl, rfl, by decide, by kernel_rfl, by kernel_rfl⟩

def ac81_G1 : List AOper :=
 [⟨(some 16), .move (t_ 1), (some (15, false)), false⟩,
 ⟨(some 17), .move (t_ 3), (some (15, false)), false⟩,
 ⟨(some 18), .bin .add 3 (t_ 16) (t_ 17), (some (15, false)), false⟩,
 ⟨(some 19), .bin .gtr 3 (t_ 18) (k_ 32), (some (15, false)), false⟩,
 (q_ 20 (.pick (t_ 15) (.const (.bool true)) (t_ 19)))]
/-- patchbay/bitvec.Concat -/
def ac81 : AC :=
 .seq (.region false [(q_ 8 (.move (.const (.int .u32 0)))),
 (q_ 9 (.move (.const (.bool false))))])
 (.seq (.seq (.region false ((q_ 10 (.move (t_ 1))) :: (q_ 11 (.move (t_ 3))) :: (q_ 12 (.bslice false 3 1 false [(t_ 10), (t_ 11)])) :: (q_ 13 (.call (.func 83) [(t_ 12)])) :: (q_ 14 (.un .not (t_ 13))) :: (q_ 15 (.move (t_ 14))) :: (ac81_G1 ++ [])))
 (.cond (t_ 20)
 (.seq (.region false [(q_ 8 (.move (.const (.int .u32 0)))),
 (q_ 9 (.move (.const (.bool false))))])
 (.ret))
 (.skip)))
 (.seq (.region true [(q_ 21 (.move (t_ 0))),
 (q_ 22 (.move (t_ 1))),
 (q_ 23 (.call (.func 50) [(t_ 22)])),
 (q_ 24 (.bin .and 57 (t_ 21) (t_ 23))),
 (q_ 25 (.move (t_ 3))),
 (q_ 26 (.bin .shl 57 (t_ 24) (t_ 25))),
 (q_ 27 (.move (t_ 2))),
 (q_ 28 (.move (t_ 3))),
 (q_ 29 (.call (.func 50) [(t_ 28)])),
 (q_ 30 (.bin .and 57 (t_ 27) (t_ 29))),
 (q_ 31 (.bin .or 57 (t_ 26) (t_ 30))),
 (q_ 8 (.move (t_ 31))),
 (q_ 9 (.move (.const (.bool true))))])
 (.ret)))
theorem text81 : FnText Try.prog 81 [] 32 4 ac81 [(8, none), (9, none)] :=
 ⟨Try.call81, follows, Try.f81, _, Try.func81, rfl, rfl, by decide, by kernel_rfl, by kernel_rfl⟩


/-- patchbay/expr.truth -/
def ac82 : AC :=
 .seq (.region false [(q_ 2 (.alloc true 88 (.agg [(.int .u32 0), (.int .i64 0)].toArray)))])
 (.seq (.seq (.region false [(q_ 3 (.move (t_ 0)))])
 (.cond (t_ 3)
 (.seq (.region false [(q_ 4 (.build [(.int .u32 0), (.int .i64 0)] [(0, 1, (.const (.int .u32 1))), (1, 1, (k_ 1))])),
 ⟨none, .store 2 (t_ 2) (t_ 4), none, false⟩])
 (.ret))
 (.skip)))
 (.seq (.region false [(q_ 5 (.build [(.int .u32 0), (.int .i64 0)] [(0, 1, (.const (.int .u32 0))), (1, 1, (k_ 1))])),
 ⟨none, .store 2 (t_ 2) (t_ 5), none, false⟩])
 (.ret)))
theorem text82 : FnText Try.prog 82 [2] 6 1 ac82 [(2, some (2, true))] :=
 ⟨Try.call82, follows, Try.f82, _, Try.func82, rfl, rfl, by decide, by kernel_rfl, by kernel_rfl⟩


/-- patchbay/expr.binary -/
def ac48 : AC :=
 .seq (.region false [(q_ 4 (.box false 88 (t_ 1))),
 (q_ 5 (.box false 88 (t_ 2))),
 (q_ 6 (.alloc true 88 (.agg [(.int .u32 0), (.int .i64 0)].toArray)))])
 (.seq (.seq (.region false [(q_ 9 (.move (t_ 0)))])
 (.block 0 (.seq (.region false [(q_ 11 (.bin .eql 3 (t_ 9) (k_ 9))),
 (q_ 10 (.move (t_ 11)))])
 (.cond (t_ 10)
 (.seq (.region true [(q_ 12 (.faddr 0 1 false (t_ 4))),
 (q_ 13 (.load 1 false (t_ 12))),
 (q_ 14 (.faddr 0 1 false (t_ 5))),
 (q_ 15 (.load 1 false (t_ 14))),
 (q_ 16 (.faddr 1 1 false (t_ 4))),
 (q_ 17 (.load 1 false (t_ 16))),
 (q_ 18 (.call (.func 79) [(t_ 13), (t_ 15), (t_ 17)])),
 (q_ 19 (.faddr 1 1 false (t_ 4))),
 (q_ 20 (.load 1 false (t_ 19))),
 (q_ 21 (.build [(.int .u32 0), (.int .i64 0)] [(0, 1, (t_ 18)), (1, 1, (t_ 20))])),
 ⟨none, .store 2 (t_ 6) (t_ 21), none, false⟩])
 (.ret))
 (.seq (.region false [(q_ 23 (.bin .eql 3 (t_ 9) (k_ 10))),
 (q_ 22 (.move (t_ 23)))])
 (.cond (t_ 22)
 (.seq (.region true [(q_ 24 (.faddr 0 1 false (t_ 4))),
 (q_ 25 (.load 1 false (t_ 24))),
 (q_ 26 (.faddr 0 1 false (t_ 5))),
 (q_ 27 (.load 1 false (t_ 26))),
 (q_ 28 (.faddr 1 1 false (t_ 4))),
 (q_ 29 (.load 1 false (t_ 28))),
 (q_ 30 (.call (.func 80) [(t_ 25), (t_ 27), (t_ 29)])),
 (q_ 31 (.faddr 1 1 false (t_ 4))),
 (q_ 32 (.load 1 false (t_ 31))),
 (q_ 33 (.build [(.int .u32 0), (.int .i64 0)] [(0, 1, (t_ 30)), (1, 1, (t_ 32))])),
 ⟨none, .store 2 (t_ 6) (t_ 33), none, false⟩])
 (.ret))
 (.seq (.region false [(q_ 35 (.bin .eql 3 (t_ 9) (k_ 11))),
 (q_ 34 (.move (t_ 35)))])
 (.cond (t_ 34)
 (.seq (.region false [(q_ 36 (.faddr 0 1 false (t_ 4))),
 (q_ 37 (.load 1 false (t_ 36))),
 (q_ 38 (.faddr 0 1 false (t_ 5))),
 (q_ 39 (.load 1 false (t_ 38))),
 (q_ 40 (.bin .and 57 (t_ 37) (t_ 39))),
 (q_ 41 (.faddr 1 1 false (t_ 4))),
 (q_ 42 (.load 1 false (t_ 41))),
 (q_ 43 (.build [(.int .u32 0), (.int .i64 0)] [(0, 1, (t_ 40)), (1, 1, (t_ 42))])),
 ⟨none, .store 2 (t_ 6) (t_ 43), none, false⟩])
 (.ret))
 (.seq (.region false [(q_ 45 (.bin .eql 3 (t_ 9) (k_ 12))),
 (q_ 44 (.move (t_ 45)))])
 (.cond (t_ 44)
 (.seq (.region false [(q_ 46 (.faddr 0 1 false (t_ 4))),
 (q_ 47 (.load 1 false (t_ 46))),
 (q_ 48 (.faddr 0 1 false (t_ 5))),
 (q_ 49 (.load 1 false (t_ 48))),
 (q_ 50 (.bin .or 57 (t_ 47) (t_ 49))),
 (q_ 51 (.faddr 1 1 false (t_ 4))),
 (q_ 52 (.load 1 false (t_ 51))),
 (q_ 53 (.build [(.int .u32 0), (.int .i64 0)] [(0, 1, (t_ 50)), (1, 1, (t_ 52))])),
 ⟨none, .store 2 (t_ 6) (t_ 53), none, false⟩])
 (.ret))
 (.seq (.region false [(q_ 55 (.bin .eql 3 (t_ 9) (k_ 13))),
 (q_ 54 (.move (t_ 55)))])
 (.cond (t_ 54)
 (.seq (.region false [(q_ 56 (.faddr 0 1 false (t_ 4))),
 (q_ 57 (.load 1 false (t_ 56))),
 (q_ 58 (.faddr 0 1 false (t_ 5))),
 (q_ 59 (.load 1 false (t_ 58))),
 (q_ 60 (.bin .xor 57 (t_ 57) (t_ 59))),
 (q_ 61 (.faddr 1 1 false (t_ 4))),
 (q_ 62 (.load 1 false (t_ 61))),
 (q_ 63 (.build [(.int .u32 0), (.int .i64 0)] [(0, 1, (t_ 60)), (1, 1, (t_ 62))])),
 ⟨none, .store 2 (t_ 6) (t_ 63), none, false⟩])
 (.ret))
 (.seq (.region false [(q_ 65 (.bin .eql 3 (t_ 9) (k_ 14))),
 (q_ 64 (.move (t_ 65)))])
 (.cond (t_ 64)
 (.seq (.region false [(q_ 67 (.faddr 0 1 false (t_ 4))),
 (q_ 68 (.load 1 false (t_ 67))),
 (q_ 69 (.faddr 1 1 false (t_ 4))),
 (q_ 70 (.load 1 false (t_ 69))),
 (q_ 71 (.faddr 0 1 false (t_ 5))),
 (q_ 72 (.load 1 false (t_ 71))),
 (q_ 73 (.faddr 1 1 false (t_ 5))),
 (q_ 74 (.load 1 false (t_ 73))),
 (q_ 75 (.call (.func 81) [(t_ 68), (t_ 70), (t_ 72), (t_ 74)])),
 (q_ 66 (.move (t_ 75))),
 (q_ 76 (.extract (t_ 66) 0)),
 (q_ 77 (.extract (t_ 66) 1)),
 (q_ 7 (.move (t_ 76))),
 (q_ 8 (.move (t_ 77)))])
 (.seq (.region false [(q_ 78 (.move (t_ 7))),
 (q_ 79 (.faddr 1 1 false (t_ 4))),
 (q_ 80 (.load 1 false (t_ 79))),
 (q_ 81 (.faddr 1 1 false (t_ 5))),
 (q_ 82 (.load 1 false (t_ 81))),
 (q_ 83 (.bin .add 3 (t_ 80) (t_ 82))),
 (q_ 84 (.build [(.int .u32 0), (.int .i64 0)] [(0, 1, (t_ 78)), (1, 1, (t_ 83))])),
 ⟨none, .store 2 (t_ 6) (t_ 84), none, false⟩])
 (.ret)))
 (.seq (.region false [(q_ 86 (.bin .eql 3 (t_ 9) (k_ 15))),
 (q_ 85 (.move (t_ 86)))])
 (.cond (t_ 85)
 (.seq (.region false [(q_ 87 (.faddr 0 1 false (t_ 4))),
 (q_ 88 (.load 1 false (t_ 87))),
 (q_ 89 (.faddr 0 1 false (t_ 5))),
 (q_ 90 (.load 1 false (t_ 89))),
 (q_ 91 (.bin .eql 57 (t_ 88) (t_ 90))),
 (q_ 92 (.call (.func 82) [(t_ 91)])),
 ⟨none, .store 2 (t_ 6) (t_ 92), none, false⟩])
 (.ret))
 (.skip)))))))))))))))))
 (.seq (.region false [(q_ 93 (.faddr 0 1 false (t_ 4))),
 (q_ 94 (.load 1 false (t_ 93))),
 (q_ 95 (.faddr 0 1 false (t_ 5))),
 (q_ 96 (.load 1 false (t_ 95))),
 (q_ 97 (.bin .lss 57 (t_ 94) (t_ 96))),
 (q_ 98 (.call (.func 82) [(t_ 97)])),
 ⟨none, .store 2 (t_ 6) (t_ 98), none, false⟩])
 (.ret)))
theorem text48 : FnText Try.prog 48 [6] 99 3 ac48 [(6, some (2, true))] :=
 ⟨Try.call48, follows, Try.f48, _, Try.func48, rfl, rfl, by decide, by kernel_rfl, by kernel_rfl⟩


/-- (*patchbay/expr.machine).eval -/
def ac36 : AC :=
 .seq (.region false [(q_ 2 (.alloc true 88 (.agg [(.int .u32 0), (.int .i64 0)].toArray)))])
 (.seq (.region true [(q_ 9 (.move (t_ 0))),
 (q_ 10 (.nilCheck (t_ 9))),
 (q_ 11 (.faddr 15 1 false (t_ 10))),
 (q_ 12 (.load 1 false (t_ 11))),
 (q_ 13 (.move (t_ 0))),
 (q_ 14 (.nilCheck (t_ 13))),
 (q_ 15 (.faddr 16 1 false (t_ 14))),
 (q_ 16 (.load 1 false (t_ 15))),
 (q_ 17 (.iaddr 3 (t_ 12) (t_ 16))),
 (q_ 18 (.load 3 true (t_ 17))),
 (q_ 3 (.alloc true 69 (.agg [(.int .i64 0), (.int .i64 0), (.int .i64 0)].toArray))),
 ⟨none, .store 3 (t_ 3) (t_ 18), none, false⟩])
 (.seq (.region false [(q_ 19 (.move (t_ 0))),
 (q_ 20 (.nilCheck (t_ 19))),
 (q_ 21 (.faddr 16 1 false (t_ 20))),
 (q_ 22 (.load 1 false (t_ 21))),
 (q_ 23 (.bin .add 3 (t_ 22) (k_ 1))),
 (q_ 24 (.nilCheck (t_ 19))),
 (q_ 25 (.faddr 16 1 false (t_ 24))),
 ⟨none, .store 1 (t_ 25) (t_ 23), none, false⟩])
 (.seq (.seq (.region false [(q_ 26 (.faddr 0 1 false (t_ 3))),
 (q_ 27 (.load 1 false (t_ 26))),
 (q_ 28 (.call (.func 23) [(t_ 27)]))])
 (.block 0 (.seq (.region false [(q_ 30 (.bin .eql 3 (t_ 28) (k_ 0))),
 (q_ 29 (.move (t_ 30)))])
 (.cond (t_ 29)
 (.seq (.region false [(q_ 31 (.move (t_ 0))),
 (q_ 32 (.load 3 true (t_ 3))),
 (q_ 33 (.call (.func 46) [(t_ 31), (t_ 32)])),
 ⟨none, .store 2 (t_ 2) (t_ 33), none, false⟩])
 (.ret))
 (.seq (.region false [(q_ 35 (.bin .eql 3 (t_ 28) (k_ 1))),
 (q_ 34 (.move (t_ 35)))])
 (.cond (t_ 34)
 (.seq (.regionU [⟨(some 36), .load 3 true (t_ 3), none, true⟩,
 (q_ 37 (.move (t_ 0))),
 (q_ 38 (.call (.func 36) [(t_ 37)])),
 (q_ 39 (.call (.func 47) [(t_ 36), (t_ 38)])),
 ⟨none, .store 2 (t_ 2) (t_ 39), none, false⟩])
 (.ret))
 (.seq (.region false [(q_ 41 (.bin .eql 3 (t_ 28) (k_ 2))),
 (q_ 40 (.move (t_ 41)))])
 (.cond (t_ 40)
 (.seq (.region false [(q_ 42 (.move (t_ 0))),
 (q_ 43 (.call (.func 36) [(t_ 42)])),
 (q_ 4 (.alloc true 88 (.agg [(.int .u32 0), (.int .i64 0)].toArray))),
 ⟨none, .store 2 (t_ 4) (t_ 43), none, false⟩])
 (.seq (.region false [(q_ 44 (.move (t_ 0))),
 (q_ 45 (.call (.func 36) [(t_ 44)])),
 (q_ 5 (.alloc true 88 (.agg [(.int .u32 0), (.int .i64 0)].toArray))),
 ⟨none, .store 2 (t_ 5) (t_ 45), none, false⟩])
 (.seq (.region false [(q_ 46 (.faddr 0 1 false (t_ 3))),
 (q_ 47 (.load 1 false (t_ 46))),
 (q_ 48 (.load 2 true (t_ 4))),
 (q_ 49 (.load 2 true (t_ 5))),
 (q_ 50 (.call (.func 48) [(t_ 47), (t_ 48), (t_ 49)])),
 ⟨none, .store 2 (t_ 2) (t_ 50), none, false⟩])
 (.ret))))
 (.skip)))))))))
 (.seq (.region false [(q_ 51 (.move (t_ 0))),
 (q_ 52 (.call (.func 36) [(t_ 51)])),
 (q_ 6 (.alloc true 88 (.agg [(.int .u32 0), (.int .i64 0)].toArray))),
 ⟨none, .store 2 (t_ 6) (t_ 52), none, false⟩])
 (.seq (.region false [(q_ 53 (.move (t_ 0))),
 (q_ 54 (.call (.func 36) [(t_ 53)])),
 (q_ 7 (.alloc true 88 (.agg [(.int .u32 0), (.int .i64 0)].toArray))),
 ⟨none, .store 2 (t_ 7) (t_ 54), none, false⟩])
 (.seq (.region false [(q_ 55 (.move (t_ 0))),
 (q_ 56 (.call (.func 36) [(t_ 55)])),
 (q_ 8 (.alloc true 88 (.agg [(.int .u32 0), (.int .i64 0)].toArray))),
 ⟨none, .store 2 (t_ 8) (t_ 56), none, false⟩])
 (.seq (.seq (.region false [(q_ 57 (.faddr 0 1 false (t_ 6))),
 (q_ 58 (.load 1 false (t_ 57))),
 (q_ 59 (.bin .eql 57 (t_ 58) (.const (.int .u32 1))))])
 (.cond (t_ 59)
 (.seq (.region false [(q_ 60 (.load 2 true (t_ 7))),
 ⟨none, .store 2 (t_ 2) (t_ 60), none, false⟩])
 (.ret))
 (.skip)))
 (.seq (.region false [(q_ 61 (.load 2 true (t_ 8))),
 ⟨none, .store 2 (t_ 2) (t_ 61), none, false⟩])
 (.ret)))))))))
theorem text36 : FnText Try.prog 36 [2, 3, 4, 5, 6, 7, 8, 1000000] 62 1 ac36 [(2, some (2, true))] :=
 ⟨Try.call36, follows, Try.f36, _, Try.func36, rfl, rfl, by decide, by kernel_rfl, by kernel_rfl⟩


/-- patchbay/expr.Eval -/
def ac19 : AC :=
 .seq (.region false [(q_ 5 (.box false 46 (t_ 1))),
 (q_ 6 (.box false 38 (t_ 2))),
 (q_ 8 (.move (.const (.int .u32 0))))])
 (.seq (.seq (.region false [(q_ 13 (.move (t_ 0))),
 (q_ 14 (.load 10 true (t_ 5))),
 (q_ 15 (.call (.func 6) [(t_ 13), (t_ 14)])),
 (q_ 12 (.move (t_ 15))),
 (q_ 16 (.extract (t_ 12) 0)),
 (q_ 17 (.extract (t_ 12) 1)),
 (q_ 9 (.move (t_ 16))),
 (q_ 10 (.move (t_ 17)))])
 (.seq (.region false [(q_ 18 (.move (t_ 10))),
 (q_ 19 (.bin .neq 42 (t_ 18) (k_ 0)))])
 (.cond (t_ 19)
 (.seq (.region false [(q_ 8 (.move (.const (.int .u32 0))))])
 (.ret))
 (.skip))))
 (.seq (.region false [(q_ 20 (.load 10 true (t_ 5))),
 (q_ 21 (.load 4 true (t_ 6))),
 (q_ 22 (.move (t_ 3))),
 (q_ 23 (.move (t_ 0))),
 ⟨(some 24), .build [(.string ⟨[].toArray⟩), (.slice none 0 0), (.slice none 0 0), (.slice none 0 0), (.slice none 0 0), (.slice none 0 0), (.slice none 0 0), (.slice none 0 0), (.slice none 0 0), (.slice none 0 0), (.slice none 0 0), (.slice none 0 0), (.slice none 0 0), (.slice none 0 0), (.slice none 0 0), (.slice none 0 0), (.int .i64 0)] [(0, 10, (t_ 20)), (10, 4, (t_ 21)), (14, 1, (t_ 22)), (15, 1, (t_ 23))], none, false⟩,
 ⟨(some 11), .alloc true 86 (.agg [(.string ⟨[].toArray⟩), (.slice none 0 0), (.slice none 0 0), (.slice none 0 0), (.slice none 0 0), (.slice none 0 0), (.slice none 0 0), (.slice none 0 0), (.slice none 0 0), (.slice none 0 0), (.slice none 0 0), (.slice none 0 0), (.slice none 0 0), (.slice none 0 0), (.slice none 0 0), (.slice none 0 0), (.int .i64 0)].toArray), none, false⟩,
 ⟨none, .store 17 (t_ 11) (t_ 24), none, false⟩])
 (.seq (.region false [(q_ 25 (.call (.func 36) [(t_ 11)])),
 (q_ 26 (.field 0 1 false (t_ 25))),
 (q_ 8 (.move (t_ 26)))])
 (.ret))))
theorem text19 : FnText Try.prog 19 [11] 27 4 ac19 [(8, none)] :=
 ⟨Try.call19, follows, Try.f19, _, Try.func19, rfl, rfl, by decide, by kernel_rfl, by kernel_rfl⟩

def ac4_L1 : AC :=
 .seq (.seq (.region false [(q_ 20 (.move (t_ 7))),
 (q_ 21 (.move (t_ 5))),
 (q_ 22 (.bi .len [52].toArray 3 [(t_ 21)])),
 (q_ 23 (.bin .lss 3 (t_ 20) (t_ 22)))])
 (.cond (t_ 23)
 (.skip)
 (.exit 0)))
 (.seq (.block 1 (.seq (.region true [(q_ 26 (.faddr 11 4 true (t_ 2))),
 (q_ 27 (.load 4 true (t_ 26))),
 (q_ 28 (.move (t_ 5))),
 (q_ 29 (.move (t_ 7))),
 (q_ 30 (.iaddr 2 (t_ 28) (t_ 29))),
 (q_ 31 (.load 2 true (t_ 30))),
 (q_ 32 (.call (.func 17) [(t_ 27), (t_ 31)])),
 (q_ 33 (.load 4 true (t_ 3))),
 (q_ 34 (.move (t_ 5))),
 (q_ 35 (.move (t_ 7))),
 (q_ 36 (.iaddr 2 (t_ 34) (t_ 35))),
 (q_ 37 (.load 2 true (t_ 36))),
 (q_ 38 (.call (.func 17) [(t_ 33), (t_ 37)])),
 (q_ 39 (.bin .neq 57 (t_ 32) (t_ 38)))])
 (.cond (t_ 39)
 (.seq (.region false [(q_ 40 (.call (.func 5) [])),
 (q_ 4 (.move (t_ 40)))])
 (.ret))
 (.skip))))
 (.region false [(q_ 24 (.move (t_ 7))),
 (q_ 25 (.bin .add 3 (t_ 24) (k_ 1))),
 (q_ 7 (.move (t_ 25)))]))
def ac4_L2 : AC :=
 .seq (.seq (.region false [(q_ 41 (.move (t_ 8))),
 (q_ 42 (.move (t_ 6))),
 (q_ 43 (.bi .len [29].toArray 3 [(t_ 42)])),
 (q_ 44 (.bin .lss 3 (t_ 41) (t_ 43)))])
 (.cond (t_ 44)
 (.skip)
 (.exit 2)))
 (.seq (.block 3 (.seq (.region true [(q_ 47 (.faddr 11 4 true (t_ 2))),
 (q_ 48 (.load 4 true (t_ 47))),
 (q_ 49 (.move (t_ 6))),
 (q_ 50 (.move (t_ 8))),
 (q_ 51 (.iaddr 1 (t_ 49) (t_ 50))),
 (q_ 52 (.load 1 false (t_ 51))),
 (q_ 53 (.call (.func 18) [(t_ 48), (t_ 52)])),
 (q_ 54 (.load 4 true (t_ 3))),
 (q_ 55 (.move (t_ 6))),
 (q_ 56 (.move (t_ 8))),
 (q_ 57 (.iaddr 1 (t_ 55) (t_ 56))),
 (q_ 58 (.load 1 false (t_ 57))),
 (q_ 59 (.call (.func 18) [(t_ 54), (t_ 58)])),
 (q_ 60 (.bin .neq 4 (t_ 53) (t_ 59)))])
 (.cond (t_ 60)
 (.seq (.region false [(q_ 61 (.call (.func 5) [])),
 (q_ 4 (.move (t_ 61)))])
 (.ret))
 (.skip))))
 (.region false [(q_ 45 (.move (t_ 8))),
 (q_ 46 (.bin .add 3 (t_ 45) (k_ 1))),
 (q_ 8 (.move (t_ 46)))]))
def ac4_G1 : List AOper :=
 [⟨(some 81), .call (.func 5) [], (some (80, true)), false⟩,
 (q_ 82 (.pick (t_ 80) (t_ 81) (.const (.bool false))))]
/-- patchbay/patchbaylaw13.ExprDepends -/
def ac4 : AC :=
 .seq (.region false [(q_ 2 (.box false 40 (t_ 0))),
 (q_ 3 (.box false 38 (t_ 1))),
 (q_ 4 (.move (.const (.bool false))))])
 (.seq (.seq (.region false [(q_ 9 (.faddr 10 1 false (t_ 2))),
 (q_ 10 (.load 1 false (t_ 9))),
 (q_ 11 (.bi .len [32].toArray 3 [(t_ 10)])),
 (q_ 12 (.bin .gtr 3 (t_ 11) (k_ 100)))])
 (.cond (t_ 12)
 (.seq (.region false [(q_ 13 (.call (.func 5) [])),
 (q_ 4 (.move (t_ 13)))])
 (.ret))
 (.skip)))
 (.seq (.region true [(q_ 14 (.faddr 10 1 false (t_ 2))),
 (q_ 15 (.load 1 false (t_ 14))),
 (q_ 16 (.call (.func 12) [(t_ 15)])),
 (q_ 17 (.faddr 10 1 false (t_ 2))),
 (q_ 18 (.load 1 false (t_ 17))),
 (q_ 19 (.call (.func 15) [(t_ 18)])),
 (q_ 5 (.move (t_ 16))),
 (q_ 6 (.move (t_ 19)))])
 (.seq (.seq (.region false [(q_ 7 (.move (k_ 0)))])
 (.block 0 (.loop ac4_L1)))
 (.seq (.seq (.region false [(q_ 8 (.move (k_ 0)))])
 (.block 2 (.loop ac4_L2)))
 (.seq (.region true ((q_ 62 (.faddr 10 1 false (t_ 2))) :: (q_ 63 (.load 1 false (t_ 62))) :: (q_ 64 (.load 16 true (t_ 2))) :: (q_ 65 (.call (.func 7) [(t_ 64)])) :: (q_ 66 (.faddr 11 4 true (t_ 2))) :: (q_ 67 (.load 4 true (t_ 66))) :: (q_ 68 (.faddr 15 1 false (t_ 2))) :: (q_ 69 (.load 1 false (t_ 68))) :: (q_ 70 (.call (.func 19) [(t_ 63), (t_ 65), (t_ 67), (t_ 69)])) :: (q_ 71 (.faddr 10 1 false (t_ 2))) :: (q_ 72 (.load 1 false (t_ 71))) :: (q_ 73 (.load 16 true (t_ 2))) :: (q_ 74 (.call (.func 7) [(t_ 73)])) :: (q_ 75 (.load 4 true (t_ 3))) :: (q_ 76 (.faddr 15 1 false (t_ 2))) :: (q_ 77 (.load 1 false (t_ 76))) :: (q_ 78 (.call (.func 19) [(t_ 72), (t_ 74), (t_ 75), (t_ 77)])) :: (q_ 79 (.bin .eql 57 (t_ 70) (t_ 78))) :: (q_ 80 (.move (t_ 79))) :: (ac4_G1 ++ [(q_ 4 (.move (t_ 82)))])))
 (.ret))))))
theorem text4 : FnText Try.prog 4 [] 83 2 ac4 [(4, none)] :=
 ⟨Try.call4, follows, Try.f4, _, Try.func4, rfl, rfl, by decide, by kernel_rfl, by kernel_rfl⟩


/-- patchbay/patchbaylaw13.constant -/
def ac20 : AC :=
 .seq (.region false [(q_ 2 (.alloc true 69 (.agg [(.int .i64 0), (.int .i64 0), (.int .i64 0)].toArray)))])
 (.seq (.region false [(q_ 3 (.move (t_ 0))),
 (q_ 4 (.build [(.int .i64 0), (.int .i64 0), (.int .i64 0)] [(0, 1, (k_ 1)), (1, 1, (t_ 3)), (2, 1, (k_ 8))])),
 ⟨none, .store 3 (t_ 2) (t_ 4), none, false⟩])
 (.ret))
theorem text20 : FnText Try.prog 20 [2] 5 1 ac20 [(2, some (3, true))] :=
 ⟨Try.call20, follows, Try.f20, _, Try.func20, rfl, rfl, by decide, by kernel_rfl, by kernel_rfl⟩

def ac9_G1 : List AOper :=
 [⟨(some 10), .move (t_ 1), (some (9, false)), false⟩,
 ⟨(some 11), .move (t_ 0), (some (9, false)), false⟩,
 ⟨(some 12), .bi .len [32].toArray 3 [(t_ 11)], (some (9, false)), false⟩,
 ⟨(some 13), .bin .geq 3 (t_ 10) (t_ 12), (some (9, false)), false⟩,
 (q_ 14 (.pick (t_ 9) (.const (.bool true)) (t_ 13)))]
def ac9_L1 : AC :=
 .seq (.seq (.region false [(q_ 15 (.move (t_ 5))),
 (q_ 16 (.bin .gtr 3 (t_ 15) (k_ 0)))])
 (.cond (t_ 16)
 (.skip)
 (.exit 0)))
 (.seq (.block 1 (.seq (.seq (.region false [(q_ 19 (.move (t_ 1))),
 (q_ 20 (.move (t_ 0))),
 (q_ 21 (.bi .len [32].toArray 3 [(t_ 20)])),
 (q_ 22 (.bin .geq 3 (t_ 19) (t_ 21)))])
 (.cond (t_ 22)
 (.seq (.region false [(q_ 4 (.move (.const (.int .i64 (-1)))))])
 (.ret))
 (.skip)))
 (.seq (.region false [(q_ 23 (.move (t_ 0))),
 (q_ 24 (.move (t_ 1))),
 (q_ 25 (.iaddr 3 (t_ 23) (t_ 24))),
 (q_ 26 (.faddr 0 1 false (t_ 25))),
 (q_ 27 (.load 1 false (t_ 26))),
 (q_ 28 (.call (.func 23) [(t_ 27)])),
 (q_ 6 (.move (t_ 28)))])
 (.seq (.seq (.region false [(q_ 29 (.move (t_ 6))),
 (q_ 30 (.bin .lss 3 (t_ 29) (k_ 0)))])
 (.cond (t_ 30)
 (.seq (.region false [(q_ 4 (.move (.const (.int .i64 (-1)))))])
 (.ret))
 (.skip)))
 (.region false [(q_ 31 (.move (t_ 5))),
 (q_ 32 (.move (t_ 6))),
 (q_ 33 (.bin .sub 3 (t_ 32) (k_ 1))),
 (q_ 34 (.bin .add 3 (t_ 31) (t_ 33))),
 (q_ 5 (.move (t_ 34)))])))))
 (.region false [(q_ 17 (.move (t_ 1))),
 (q_ 18 (.bin .add 3 (t_ 17) (k_ 1))),
 (q_ 1 (.move (t_ 18)))]))
/-- patchbay/expr.End -/
def ac9 : AC :=
 .seq (.region false [(q_ 4 (.move (k_ 0)))])
 (.seq (.seq (.region false ((q_ 7 (.move (t_ 1))) :: (q_ 8 (.bin .lss 3 (t_ 7) (k_ 0))) :: (q_ 9 (.move (t_ 8))) :: (ac9_G1 ++ [])))
 (.cond (t_ 14)
 (.seq (.region false [(q_ 4 (.move (.const (.int .i64 (-1)))))])
 (.ret))
 (.skip)))
 (.seq (.seq (.region false [(q_ 5 (.move (k_ 1)))])
 (.block 0 (.loop ac9_L1)))
 (.seq (.region false [(q_ 35 (.move (t_ 1))),
 (q_ 4 (.move (t_ 35)))])
 (.ret))))
theorem text9 : FnText Try.prog 9 [] 36 2 ac9 [(4, none)] :=
 ⟨Try.call9, follows, Try.f9, _, Try.func9, rfl, rfl, by decide, by kernel_rfl, by kernel_rfl⟩


/-- math/bits.Len -/
def ac42 : AC :=
 .seq (.region false [(q_ 2 (.move (k_ 0)))])
 (.seq (.cond (.const (.bool false))
 (.seq (.region false [(q_ 3 (.move (t_ 0))),
 (q_ 4 (.conv 97 57 (t_ 3))),
 (q_ 5 (.call (.func 63) [(t_ 4)])),
 (q_ 2 (.move (t_ 5)))])
 (.ret))
 (.skip))
 (.seq (.region false [(q_ 6 (.move (t_ 0))),
 (q_ 7 (.call (.func 64) [(t_ 6)])),
 (q_ 2 (.move (t_ 7)))])
 (.ret)))
theorem text42 : FnText Try.prog 42 [] 8 1 ac42 [(2, none)] :=
 ⟨Try.call42, follows, Try.f42, _, Try.func42, rfl, rfl, by decide, by kernel_rfl, by kernel_rfl⟩


/-- math/bits.Len32 -/
def ac63 : AC :=
 .seq (.region false [(q_ 2 (.move (k_ 0)))])
 (.seq (.seq (.region false [(q_ 3 (.move (t_ 0))),
 (q_ 4 (.bin .geq 57 (t_ 3) (.const (.int .u32 65536))))])
 (.cond (t_ 4)
 (.seq (.region false [(q_ 5 (.move (t_ 0))),
 (q_ 6 (.bin .shr 57 (t_ 5) (.const (.int .u64 16)))),
 (q_ 0 (.move (t_ 6)))])
 (.region false [(q_ 2 (.move (k_ 16)))]))
 (.skip)))
 (.seq (.seq (.region false [(q_ 7 (.move (t_ 0))),
 (q_ 8 (.bin .geq 57 (t_ 7) (.const (.int .u32 256))))])
 (.cond (t_ 8)
 (.seq (.region false [(q_ 9 (.move (t_ 0))),
 (q_ 10 (.bin .shr 57 (t_ 9) (.const (.int .u64 8)))),
 (q_ 0 (.move (t_ 10)))])
 (.region false [(q_ 11 (.move (t_ 2))),
 (q_ 12 (.bin .add 3 (t_ 11) (k_ 8))),
 (q_ 2 (.move (t_ 12)))]))
 (.skip)))
 (.seq (.region false [(q_ 13 (.move (t_ 2))),
 (q_ 14 (.move (t_ 0))),
 (q_ 15 (.conv 57 5 (t_ 14))),
 ⟨(some 16), .indexS 9 (.const (.string ⟨[0, 1, 2, 2, 3, 3, 3, 3, 4, 4, 4, 4, 4, 4, 4, 4, 5, 5, 5, 5, 5, 5, 5, 5, 5, 5, 5, 5, 5, 5, 5, 5, 6, 6, 6, 6, 6, 6, 6, 6, 6, 6, 6, 6, 6, 6, 6, 6, 6, 6, 6, 6, 6, 6, 6, 6, 6, 6, 6, 6, 6, 6, 6, 6, 7, 7, 7, 7, 7, 7, 7, 7, 7, 7, 7, 7, 7, 7, 7, 7, 7, 7, 7, 7, 7, 7, 7, 7, 7, 7, 7, 7, 7, 7, 7, 7, 7, 7, 7, 7, 7, 7, 7, 7, 7, 7, 7, 7, 7, 7, 7, 7, 7, 7, 7, 7, 7, 7, 7, 7, 7, 7, 7, 7, 7, 7, 7, 7, 8, 8, 8, 8, 8, 8, 8, 8, 8, 8, 8, 8, 8, 8, 8, 8, 8, 8, 8, 8, 8, 8, 8, 8, 8, 8, 8, 8, 8, 8, 8, 8, 8, 8, 8, 8, 8, 8, 8, 8, 8, 8, 8, 8, 8, 8, 8, 8, 8, 8, 8, 8, 8, 8, 8, 8, 8, 8, 8, 8, 8, 8, 8, 8, 8, 8, 8, 8, 8, 8, 8, 8, 8, 8, 8, 8, 8, 8, 8, 8, 8, 8, 8, 8, 8, 8, 8, 8, 8, 8, 8, 8, 8, 8, 8, 8, 8, 8, 8, 8, 8, 8, 8, 8, 8, 8, 8, 8, 8, 8, 8, 8, 8, 8, 8, 8, 8, 8, 8, 8, 8, 8, 8, 8, 8, 8, 8, 8].toArray⟩)) (t_ 15), none, false⟩,
 (q_ 17 (.conv 5 3 (t_ 16))),
 (q_ 18 (.bin .add 3 (t_ 13) (t_ 17))),
 (q_ 2 (.move (t_ 18)))])
 (.ret))))
theorem text63 : FnText Try.prog 63 [] 19 1 ac63 [(2, none)] :=
 ⟨Try.call63, follows, Try.f63, _, Try.func63, rfl, rfl, by decide, by kernel_rfl, by kernel_rfl⟩


/-- math/bits.Len64 -/
def ac64 : AC :=
 .seq (.region false [(q_ 2 (.move (k_ 0)))])
 (.seq (.seq (.region false [(q_ 3 (.move (t_ 0))),
 (q_ 4 (.bin .geq 120 (t_ 3) (.const (.int .u64 4294967296))))])
 (.cond (t_ 4)
 (.seq (.region false [(q_ 5 (.move (t_ 0))),
 (q_ 6 (.bin .shr 120 (t_ 5) (.const (.int .u64 32)))),
 (q_ 0 (.move (t_ 6)))])
 (.region false [(q_ 2 (.move (k_ 32)))]))
 (.skip)))
 (.seq (.seq (.region false [(q_ 7 (.move (t_ 0))),
 (q_ 8 (.bin .geq 120 (t_ 7) (.const (.int .u64 65536))))])
 (.cond (t_ 8)
 (.seq (.region false [(q_ 9 (.move (t_ 0))),
 (q_ 10 (.bin .shr 120 (t_ 9) (.const (.int .u64 16)))),
 (q_ 0 (.move (t_ 10)))])
 (.region false [(q_ 11 (.move (t_ 2))),
 (q_ 12 (.bin .add 3 (t_ 11) (k_ 16))),
 (q_ 2 (.move (t_ 12)))]))
 (.skip)))
 (.seq (.seq (.region false [(q_ 13 (.move (t_ 0))),
 (q_ 14 (.bin .geq 120 (t_ 13) (.const (.int .u64 256))))])
 (.cond (t_ 14)
 (.seq (.region false [(q_ 15 (.move (t_ 0))),
 (q_ 16 (.bin .shr 120 (t_ 15) (.const (.int .u64 8)))),
 (q_ 0 (.move (t_ 16)))])
 (.region false [(q_ 17 (.move (t_ 2))),
 (q_ 18 (.bin .add 3 (t_ 17) (k_ 8))),
 (q_ 2 (.move (t_ 18)))]))
 (.skip)))
 (.seq (.region false [(q_ 19 (.move (t_ 2))),
 (q_ 20 (.move (t_ 0))),
 (q_ 21 (.conv 120 5 (t_ 20))),
 ⟨(some 22), .indexS 9 (.const (.string ⟨[0, 1, 2, 2, 3, 3, 3, 3, 4, 4, 4, 4, 4, 4, 4, 4, 5, 5, 5, 5, 5, 5, 5, 5, 5, 5, 5, 5, 5, 5, 5, 5, 6, 6, 6, 6, 6, 6, 6, 6, 6, 6, 6, 6, 6, 6, 6, 6, 6, 6, 6, 6, 6, 6, 6, 6, 6, 6, 6, 6, 6, 6, 6, 6, 7, 7, 7, 7, 7, 7, 7, 7, 7, 7, 7, 7, 7, 7, 7, 7, 7, 7, 7, 7, 7, 7, 7, 7, 7, 7, 7, 7, 7, 7, 7, 7, 7, 7, 7, 7, 7, 7, 7, 7, 7, 7, 7, 7, 7, 7, 7, 7, 7, 7, 7, 7, 7, 7, 7, 7, 7, 7, 7, 7, 7, 7, 7, 7, 8, 8, 8, 8, 8, 8, 8, 8, 8, 8, 8, 8, 8, 8, 8, 8, 8, 8, 8, 8, 8, 8, 8, 8, 8, 8, 8, 8, 8, 8, 8, 8, 8, 8, 8, 8, 8, 8, 8, 8, 8, 8, 8, 8, 8, 8, 8, 8, 8, 8, 8, 8, 8, 8, 8, 8, 8, 8, 8, 8, 8, 8, 8, 8, 8, 8, 8, 8, 8, 8, 8, 8, 8, 8, 8, 8, 8, 8, 8, 8, 8, 8, 8, 8, 8, 8, 8, 8, 8, 8, 8, 8, 8, 8, 8, 8, 8, 8, 8, 8, 8, 8, 8, 8, 8, 8, 8, 8, 8, 8, 8, 8, 8, 8, 8, 8, 8, 8, 8, 8, 8, 8, 8, 8, 8, 8, 8, 8].toArray⟩)) (t_ 21), none, false⟩,
 (q_ 23 (.conv 5 3 (t_ 22))),
 (q_ 24 (.bin .add 3 (t_ 19) (t_ 23))),
 (q_ 2 (.move (t_ 24)))])
 (.ret)))))
theorem text64 : FnText Try.prog 64 [] 25 1 ac64 [(2, none)] :=
 ⟨Try.call64, follows, Try.f64, _, Try.func64, rfl, rfl, by decide, by kernel_rfl, by kernel_rfl⟩

def ac41_G1 : List AOper :=
 [⟨(some 70), .move (t_ 11), (some (69, true)), false⟩,
 (q_ 71 (.pick (t_ 69) (t_ 70) (.const (.bool false))))]
def ac41_G2 : List AOper :=
 [⟨(some 73), .move (t_ 14), (some (72, true)), false⟩,
 ⟨(some 74), .bin .eql 112 (t_ 73) (k_ 1), (some (72, true)), false⟩,
 (q_ 75 (.pick (t_ 72) (t_ 74) (.const (.bool false))))]
def ac41_G3 : List AOper :=
 [⟨(some 84), .move (t_ 4), (some (83, true)), false⟩,
 ⟨(some 85), .move (t_ 0), (some (83, true)), false⟩,
 ⟨(some 86), .move (t_ 1), (some (83, true)), false⟩,
 ⟨(some 87), .bin .sub 3 (t_ 86) (k_ 1), (some (83, true)), false⟩,
 ⟨(some 88), .iaddr 2 (t_ 85) (t_ 87), (some (83, true)), false⟩,
 ⟨(some 89), .load 2 true (t_ 88), (some (83, true)), false⟩,
 ⟨(some 90), .move (t_ 0), (some (83, true)), false⟩,
 ⟨(some 91), .move (t_ 13), (some (83, true)), false⟩,
 ⟨(some 92), .iaddr 2 (t_ 90) (t_ 91), (some (83, true)), false⟩,
 ⟨(some 93), .load 2 true (t_ 92), (some (83, true)), false⟩,
 ⟨(some 94), .call (t_ 84) [(t_ 89), (t_ 93)], (some (83, true)), false⟩,
 ⟨(some 95), .bin .lss 3 (t_ 94) (k_ 0), (some (83, true)), false⟩,
 ⟨(some 96), .un .not (t_ 95), (some (83, true)), false⟩,
 (q_ 97 (.pick (t_ 83) (t_ 96) (.const (.bool false))))]
def ac41_L1 : AC :=
 .block 1 (.seq (.region false [(q_ 21 (.move (t_ 2))),
 (q_ 22 (.move (t_ 1))),
 (q_ 23 (.bin .sub 3 (t_ 21) (t_ 22))),
 (q_ 12 (.move (t_ 23)))])
 (.seq (.seq (.region false [(q_ 24 (.move (t_ 12))),
 (q_ 25 (.bin .leq 3 (t_ 24) (k_ 12)))])
 (.cond (t_ 25)
 (.seq (.region false [(q_ 26 (.move (t_ 0))),
 (q_ 27 (.move (t_ 1))),
 (q_ 28 (.move (t_ 2))),
 (q_ 29 (.move (t_ 4))),
 (q_ 30 (.call (.func 55) [(t_ 26), (t_ 27), (t_ 28), (t_ 29)]))])
 (.ret))
 (.skip)))
 (.seq (.seq (.region false [(q_ 31 (.move (t_ 3))),
 (q_ 32 (.bin .eql 3 (t_ 31) (k_ 0)))])
 (.cond (t_ 32)
 (.seq (.region false [(q_ 33 (.move (t_ 0))),
 (q_ 34 (.move (t_ 1))),
 (q_ 35 (.move (t_ 2))),
 (q_ 36 (.move (t_ 4))),
 (q_ 37 (.call (.func 56) [(t_ 33), (t_ 34), (t_ 35), (t_ 36)]))])
 (.ret))
 (.skip)))
 (.seq (.seq (.region false [(q_ 38 (.move (t_ 10))),
 (q_ 39 (.un .not (t_ 38)))])
 (.cond (t_ 39)
 (.seq (.region false [(q_ 40 (.move (t_ 0))),
 (q_ 41 (.move (t_ 1))),
 (q_ 42 (.move (t_ 2))),
 (q_ 43 (.move (t_ 4))),
 (q_ 44 (.call (.func 57) [(t_ 40), (t_ 41), (t_ 42), (t_ 43)]))])
 (.region false [(q_ 45 (.move (t_ 3))),
 (q_ 46 (.bin .sub 3 (t_ 45) (k_ 1))),
 (q_ 3 (.move (t_ 46)))]))
 (.skip)))
 (.seq (.region false [(q_ 48 (.move (t_ 0))),
 (q_ 49 (.move (t_ 1))),
 (q_ 50 (.move (t_ 2))),
 (q_ 51 (.move (t_ 4))),
 (q_ 52 (.call (.func 58) [(t_ 48), (t_ 49), (t_ 50), (t_ 51)])),
 (q_ 47 (.move (t_ 52))),
 (q_ 53 (.extract (t_ 47) 0)),
 (q_ 54 (.extract (t_ 47) 1)),
 (q_ 13 (.move (t_ 53))),
 (q_ 14 (.move (t_ 54)))])
 (.seq (.seq (.region false [(q_ 55 (.move (t_ 14))),
 (q_ 56 (.bin .eql 112 (t_ 55) (k_ 2)))])
 (.cond (t_ 56)
 (.seq (.region false [(q_ 57 (.move (t_ 0))),
 (q_ 58 (.move (t_ 1))),
 (q_ 59 (.move (t_ 2))),
 (q_ 60 (.move (t_ 4))),
 (q_ 61 (.call (.func 59) [(t_ 57), (t_ 58), (t_ 59), (t_ 60)]))])
 (.seq (.region false [(q_ 62 (.move (t_ 2))),
 (q_ 63 (.bin .sub 3 (t_ 62) (k_ 1))),
 (q_ 64 (.move (t_ 13))),
 (q_ 65 (.move (t_ 1))),
 (q_ 66 (.bin .sub 3 (t_ 64) (t_ 65))),
 (q_ 67 (.bin .sub 3 (t_ 63) (t_ 66))),
 (q_ 13 (.move (t_ 67)))])
 (.region false [(q_ 14 (.move (k_ 1)))])))
 (.skip)))
 (.seq (.seq (.region false ((q_ 68 (.move (t_ 10))) :: (q_ 69 (.move (t_ 68))) :: (ac41_G1 ++ ((q_ 72 (.move (t_ 71))) :: (ac41_G2 ++ [])))))
 (.cond (t_ 75)
 (.seq (.region false [(q_ 76 (.move (t_ 0))),
 (q_ 77 (.move (t_ 1))),
 (q_ 78 (.move (t_ 2))),
 (q_ 79 (.move (t_ 4))),
 (q_ 80 (.call (.func 60) [(t_ 76), (t_ 77), (t_ 78), (t_ 79)]))])
 (.cond (t_ 80)
 (.ret)
 (.skip)))
 (.skip)))
 (.seq (.seq (.region true ((q_ 81 (.move (t_ 1))) :: (q_ 82 (.bin .gtr 3 (t_ 81) (k_ 0))) :: (q_ 83 (.move (t_ 82))) :: (ac41_G3 ++ [])))
 (.cond (t_ 97)
 (.seq (.region false [(q_ 98 (.move (t_ 0))),
 (q_ 99 (.move (t_ 1))),
 (q_ 100 (.move (t_ 2))),
 (q_ 101 (.move (t_ 13))),
 (q_ 102 (.move (t_ 4))),
 (q_ 103 (.call (.func 61) [(t_ 98), (t_ 99), (t_ 100), (t_ 101), (t_ 102)])),
 (q_ 15 (.move (t_ 103)))])
 (.seq (.region false [(q_ 104 (.move (t_ 15))),
 (q_ 1 (.move (t_ 104)))])
 (.exit 1)))
 (.skip)))
 (.seq (.region false [(q_ 106 (.move (t_ 0))),
 (q_ 107 (.move (t_ 1))),
 (q_ 108 (.move (t_ 2))),
 (q_ 109 (.move (t_ 13))),
 (q_ 110 (.move (t_ 4))),
 (q_ 111 (.call (.func 62) [(t_ 106), (t_ 107), (t_ 108), (t_ 109), (t_ 110)])),
 (q_ 105 (.move (t_ 111))),
 (q_ 112 (.extract (t_ 105) 0)),
 (q_ 113 (.extract (t_ 105) 1)),
 (q_ 16 (.move (t_ 112))),
 (q_ 17 (.move (t_ 113)))])
 (.seq (.region false [(q_ 114 (.move (t_ 17))),
 (q_ 11 (.move (t_ 114)))])
 (.seq (.region false [(q_ 115 (.move (t_ 16))),
 (q_ 116 (.move (t_ 1))),
 (q_ 117 (.bin .sub 3 (t_ 115) (t_ 116))),
 (q_ 118 (.move (t_ 2))),
 (q_ 119 (.move (t_ 16))),
 (q_ 120 (.bin .sub 3 (t_ 118) (t_ 119))),
 (q_ 18 (.move (t_ 117))),
 (q_ 19 (.move (t_ 120)))])
 (.seq (.region false [(q_ 121 (.move (t_ 12))),
 (q_ 122 (.bin .quo 3 (t_ 121) (k_ 8))),
 (q_ 20 (.move (t_ 122)))])
 (.seq (.region false [(q_ 123 (.move (t_ 18))),
 (q_ 124 (.move (t_ 19))),
 (q_ 125 (.bin .lss 3 (t_ 123) (t_ 124)))])
 (.cond (t_ 125)
 (.seq (.region false [(q_ 126 (.move (t_ 18))),
 (q_ 127 (.move (t_ 20))),
 (q_ 128 (.bin .geq 3 (t_ 126) (t_ 127))),
 (q_ 10 (.move (t_ 128)))])
 (.seq (.region false [(q_ 129 (.move (t_ 0))),
 (q_ 130 (.move (t_ 1))),
 (q_ 131 (.move (t_ 16))),
 (q_ 132 (.move (t_ 3))),
 (q_ 133 (.move (t_ 4))),
 (q_ 134 (.call (.func 41) [(t_ 129), (t_ 130), (t_ 131), (t_ 132), (t_ 133)]))])
 (.region false [(q_ 135 (.move (t_ 16))),
 (q_ 136 (.bin .add 3 (t_ 135) (k_ 1))),
 (q_ 1 (.move (t_ 136)))])))
 (.seq (.region false [(q_ 137 (.move (t_ 19))),
 (q_ 138 (.move (t_ 20))),
 (q_ 139 (.bin .geq 3 (t_ 137) (t_ 138))),
 (q_ 10 (.move (t_ 139)))])
 (.seq (.region false [(q_ 140 (.move (t_ 0))),
 (q_ 141 (.move (t_ 16))),
 (q_ 142 (.bin .add 3 (t_ 141) (k_ 1))),
 (q_ 143 (.move (t_ 2))),
 (q_ 144 (.move (t_ 3))),
 (q_ 145 (.move (t_ 4))),
 (q_ 146 (.call (.func 41) [(t_ 140), (t_ 142), (t_ 143), (t_ 144), (t_ 145)]))])
 (.region false [(q_ 147 (.move (t_ 16))),
 (q_ 2 (.move (t_ 147)))])))))))))))))))))
/-- slices.pdqsortCmpFunc[patchbay/api.FieldRef] -/
def ac41 : AC :=
 .seq (.region false [(q_ 10 (.move (.const (.bool true))))])
 (.seq (.region false [(q_ 11 (.move (.const (.bool true))))])
 (.block 0 (.loop ac41_L1)))
theorem text41 : FnText Try.prog 41 [] 148 5 ac41 [] :=
 ⟨Try.call41, follows, Try.f41, _, Try.func41, rfl, rfl, by decide, by kernel_rfl, by kernel_rfl⟩

def ac55_G1 : List AOper :=
 [⟨(some 22), .move (t_ 3), (some (21, true)), false⟩,
 ⟨(some 23), .move (t_ 0), (some (21, true)), false⟩,
 ⟨(some 24), .move (t_ 9), (some (21, true)), false⟩,
 ⟨(some 25), .iaddr 2 (t_ 23) (t_ 24), (some (21, true)), false⟩,
 ⟨(some 26), .load 2 true (t_ 25), (some (21, true)), false⟩,
 ⟨(some 27), .move (t_ 0), (some (21, true)), false⟩,
 ⟨(some 28), .move (t_ 9), (some (21, true)), false⟩,
 ⟨(some 29), .bin .sub 3 (t_ 28) (k_ 1), (some (21, true)), false⟩,
 ⟨(some 30), .iaddr 2 (t_ 27) (t_ 29), (some (21, true)), false⟩,
 ⟨(some 31), .load 2 true (t_ 30), (some (21, true)), false⟩,
 ⟨(some 32), .call (t_ 22) [(t_ 26), (t_ 31)], (some (21, true)), false⟩,
 ⟨(some 33), .bin .lss 3 (t_ 32) (k_ 0), (some (21, true)), false⟩,
 (q_ 34 (.pick (t_ 21) (t_ 33) (.const (.bool false))))]
def ac55_L2 : AC :=
 .seq (.seq (.region true ((q_ 18 (.move (t_ 9))) :: (q_ 19 (.move (t_ 1))) :: (q_ 20 (.bin .gtr 3 (t_ 18) (t_ 19))) :: (q_ 21 (.move (t_ 20))) :: (ac55_G1 ++ [])))
 (.cond (t_ 34)
 (.skip)
 (.exit 2)))
 (.seq (.block 3 (.region true [(q_ 37 (.move (t_ 0))),
 (q_ 38 (.move (t_ 9))),
 ⟨(some 39), .move (t_ 0), none, true⟩,
 ⟨(some 40), .move (t_ 9), none, true⟩,
 ⟨(some 41), .bin .sub 3 (t_ 40) (k_ 1), none, true⟩,
 (q_ 42 (.move (t_ 0))),
 (q_ 43 (.move (t_ 9))),
 (q_ 44 (.bin .sub 3 (t_ 43) (k_ 1))),
 (q_ 45 (.iaddr 2 (t_ 42) (t_ 44))),
 (q_ 46 (.load 2 true (t_ 45))),
 (q_ 47 (.move (t_ 0))),
 (q_ 48 (.move (t_ 9))),
 (q_ 49 (.iaddr 2 (t_ 47) (t_ 48))),
 (q_ 50 (.load 2 true (t_ 49))),
 (q_ 51 (.iaddr 2 (t_ 37) (t_ 38))),
 ⟨none, .store 2 (t_ 51) (t_ 46), none, false⟩,
 (q_ 52 (.iaddr 2 (t_ 39) (t_ 41))),
 ⟨none, .store 2 (t_ 52) (t_ 50), none, false⟩]))
 (.region false [(q_ 35 (.move (t_ 9))),
 (q_ 36 (.bin .sub 3 (t_ 35) (k_ 1))),
 (q_ 9 (.move (t_ 36)))]))
def ac55_L1 : AC :=
 .seq (.seq (.region false [(q_ 12 (.move (t_ 8))),
 (q_ 13 (.move (t_ 2))),
 (q_ 14 (.bin .lss 3 (t_ 12) (t_ 13)))])
 (.cond (t_ 14)
 (.skip)
 (.exit 0)))
 (.seq (.block 1 (.seq (.region false [(q_ 17 (.move (t_ 8))),
 (q_ 9 (.move (t_ 17)))])
 (.block 2 (.loop ac55_L2))))
 (.region false [(q_ 15 (.move (t_ 8))),
 (q_ 16 (.bin .add 3 (t_ 15) (k_ 1))),
 (q_ 8 (.move (t_ 16)))]))
/-- slices.insertionSortCmpFunc[patchbay/api.FieldRef] -/
def ac55 : AC :=
 .seq (.region false [(q_ 10 (.move (t_ 1))),
 (q_ 11 (.bin .add 3 (t_ 10) (k_ 1))),
 (q_ 8 (.move (t_ 11)))])
 (.block 0 (.loop ac55_L1))
theorem text55 : FnText Try.prog 55 [] 53 4 ac55 [] :=
 ⟨Try.call55, follows, Try.f55, _, Try.func55, rfl, rfl, by decide, by kernel_rfl, by kernel_rfl⟩

def ac56_L1 : AC :=
 .seq (.seq (.region false [(q_ 20 (.move (t_ 11))),
 (q_ 21 (.bin .geq 3 (t_ 20) (k_ 0)))])
 (.cond (t_ 21)
 (.skip)
 (.exit 0)))
 (.seq (.block 1 (.region false [(q_ 24 (.move (t_ 0))),
 (q_ 25 (.move (t_ 11))),
 (q_ 26 (.move (t_ 10))),
 (q_ 27 (.move (t_ 8))),
 (q_ 28 (.move (t_ 3))),
 (q_ 29 (.call (.func 86) [(t_ 24), (t_ 25), (t_ 26), (t_ 27), (t_ 28)]))]))
 (.region false [(q_ 22 (.move (t_ 11))),
 (q_ 23 (.bin .sub 3 (t_ 22) (k_ 1))),
 (q_ 11 (.move (t_ 23)))]))
def ac56_L2 : AC :=
 .seq (.seq (.region false [(q_ 32 (.move (t_ 12))),
 (q_ 33 (.bin .geq 3 (t_ 32) (k_ 0)))])
 (.cond (t_ 33)
 (.skip)
 (.exit 2)))
 (.seq (.block 3 (.seq (.region true [(q_ 36 (.move (t_ 0))),
 (q_ 37 (.move (t_ 8))),
 ⟨(some 38), .move (t_ 0), none, true⟩,
 ⟨(some 39), .move (t_ 8), none, true⟩,
 ⟨(some 40), .move (t_ 12), none, true⟩,
 ⟨(some 41), .bin .add 3 (t_ 39) (t_ 40), none, true⟩,
 (q_ 42 (.move (t_ 0))),
 (q_ 43 (.move (t_ 8))),
 (q_ 44 (.move (t_ 12))),
 (q_ 45 (.bin .add 3 (t_ 43) (t_ 44))),
 (q_ 46 (.iaddr 2 (t_ 42) (t_ 45))),
 (q_ 47 (.load 2 true (t_ 46))),
 (q_ 48 (.move (t_ 0))),
 (q_ 49 (.move (t_ 8))),
 (q_ 50 (.iaddr 2 (t_ 48) (t_ 49))),
 (q_ 51 (.load 2 true (t_ 50))),
 (q_ 52 (.iaddr 2 (t_ 36) (t_ 37))),
 ⟨none, .store 2 (t_ 52) (t_ 47), none, false⟩,
 (q_ 53 (.iaddr 2 (t_ 38) (t_ 41))),
 ⟨none, .store 2 (t_ 53) (t_ 51), none, false⟩])
 (.region false [(q_ 54 (.move (t_ 0))),
 (q_ 55 (.move (t_ 9))),
 (q_ 56 (.move (t_ 12))),
 (q_ 57 (.move (t_ 8))),
 (q_ 58 (.move (t_ 3))),
 (q_ 59 (.call (.func 86) [(t_ 54), (t_ 55), (t_ 56), (t_ 57), (t_ 58)]))])))
 (.region false [(q_ 34 (.move (t_ 12))),
 (q_ 35 (.bin .sub 3 (t_ 34) (k_ 1))),
 (q_ 12 (.move (t_ 35)))]))
/-- slices.heapSortCmpFunc[patchbay/api.FieldRef] -/
def ac56 : AC :=
 .seq (.region false [(q_ 13 (.move (t_ 1))),
 (q_ 8 (.move (t_ 13)))])
 (.seq (.region false [(q_ 9 (.move (k_ 0)))])
 (.seq (.region false [(q_ 14 (.move (t_ 2))),
 (q_ 15 (.move (t_ 1))),
 (q_ 16 (.bin .sub 3 (t_ 14) (t_ 15))),
 (q_ 10 (.move (t_ 16)))])
 (.seq (.seq (.region false [(q_ 17 (.move (t_ 10))),
 (q_ 18 (.bin .sub 3 (t_ 17) (k_ 1))),
 (q_ 19 (.bin .quo 3 (t_ 18) (k_ 2))),
 (q_ 11 (.move (t_ 19)))])
 (.block 0 (.loop ac56_L1)))
 (.seq (.region false [(q_ 30 (.move (t_ 10))),
 (q_ 31 (.bin .sub 3 (t_ 30) (k_ 1))),
 (q_ 12 (.move (t_ 31)))])
 (.block 2 (.loop ac56_L2))))))
theorem text56 : FnText Try.prog 56 [] 60 4 ac56 [] :=
 ⟨Try.call56, follows, Try.f56, _, Try.func56, rfl, rfl, by decide, by kernel_rfl, by kernel_rfl⟩

def ac86_G1 : List AOper :=
 [⟨(some 24), .move (t_ 4), (some (23, true)), false⟩,
 ⟨(some 25), .move (t_ 0), (some (23, true)), false⟩,
 ⟨(some 26), .move (t_ 3), (some (23, true)), false⟩,
 ⟨(some 27), .move (t_ 11), (some (23, true)), false⟩,
 ⟨(some 28), .bin .add 3 (t_ 26) (t_ 27), (some (23, true)), false⟩,
 ⟨(some 29), .iaddr 2 (t_ 25) (t_ 28), (some (23, true)), false⟩,
 ⟨(some 30), .load 2 true (t_ 29), (some (23, true)), false⟩,
 ⟨(some 31), .move (t_ 0), (some (23, true)), false⟩,
 ⟨(some 32), .move (t_ 3), (some (23, true)), false⟩,
 ⟨(some 33), .move (t_ 11), (some (23, true)), false⟩,
 ⟨(some 34), .bin .add 3 (t_ 32) (t_ 33), (some (23, true)), false⟩,
 ⟨(some 35), .bin .add 3 (t_ 34) (k_ 1), (some (23, true)), false⟩,
 ⟨(some 36), .iaddr 2 (t_ 31) (t_ 35), (some (23, true)), false⟩,
 ⟨(some 37), .load 2 true (t_ 36), (some (23, true)), false⟩,
 ⟨(some 38), .call (t_ 24) [(t_ 30), (t_ 37)], (some (23, true)), false⟩,
 ⟨(some 39), .bin .lss 3 (t_ 38) (k_ 0), (some (23, true)), false⟩,
 (q_ 40 (.pick (t_ 23) (t_ 39) (.const (.bool false))))]
def ac86_L1 : AC :=
 .block 1 (.seq (.region false [(q_ 13 (.move (t_ 10))),
 (q_ 14 (.bin .mul 3 (k_ 2) (t_ 13))),
 (q_ 15 (.bin .add 3 (t_ 14) (k_ 1))),
 (q_ 11 (.move (t_ 15)))])
 (.seq (.seq (.region false [(q_ 16 (.move (t_ 11))),
 (q_ 17 (.move (t_ 2))),
 (q_ 18 (.bin .geq 3 (t_ 16) (t_ 17)))])
 (.cond (t_ 18)
 (.exit 0)
 (.skip)))
 (.seq (.seq (.region true ((q_ 19 (.move (t_ 11))) :: (q_ 20 (.bin .add 3 (t_ 19) (k_ 1))) :: (q_ 21 (.move (t_ 2))) :: (q_ 22 (.bin .lss 3 (t_ 20) (t_ 21))) :: (q_ 23 (.move (t_ 22))) :: (ac86_G1 ++ [])))
 (.cond (t_ 40)
 (.region false [(q_ 41 (.move (t_ 11))),
 (q_ 42 (.bin .add 3 (t_ 41) (k_ 1))),
 (q_ 11 (.move (t_ 42)))])
 (.skip)))
 (.seq (.seq (.region true [(q_ 43 (.move (t_ 4))),
 (q_ 44 (.move (t_ 0))),
 (q_ 45 (.move (t_ 3))),
 (q_ 46 (.move (t_ 10))),
 (q_ 47 (.bin .add 3 (t_ 45) (t_ 46))),
 (q_ 48 (.iaddr 2 (t_ 44) (t_ 47))),
 (q_ 49 (.load 2 true (t_ 48))),
 (q_ 50 (.move (t_ 0))),
 (q_ 51 (.move (t_ 3))),
 (q_ 52 (.move (t_ 11))),
 (q_ 53 (.bin .add 3 (t_ 51) (t_ 52))),
 (q_ 54 (.iaddr 2 (t_ 50) (t_ 53))),
 (q_ 55 (.load 2 true (t_ 54))),
 (q_ 56 (.call (t_ 43) [(t_ 49), (t_ 55)])),
 (q_ 57 (.bin .lss 3 (t_ 56) (k_ 0))),
 (q_ 58 (.un .not (t_ 57)))])
 (.cond (t_ 58)
 (.ret)
 (.skip)))
 (.seq (.region true [(q_ 59 (.move (t_ 0))),
 (q_ 60 (.move (t_ 3))),
 (q_ 61 (.move (t_ 10))),
 (q_ 62 (.bin .add 3 (t_ 60) (t_ 61))),
 ⟨(some 63), .move (t_ 0), none, true⟩,
 ⟨(some 64), .move (t_ 3), none, true⟩,
 ⟨(some 65), .move (t_ 11), none, true⟩,
 ⟨(some 66), .bin .add 3 (t_ 64) (t_ 65), none, true⟩,
 (q_ 67 (.move (t_ 0))),
 (q_ 68 (.move (t_ 3))),
 (q_ 69 (.move (t_ 11))),
 (q_ 70 (.bin .add 3 (t_ 68) (t_ 69))),
 (q_ 71 (.iaddr 2 (t_ 67) (t_ 70))),
 (q_ 72 (.load 2 true (t_ 71))),
 (q_ 73 (.move (t_ 0))),
 (q_ 74 (.move (t_ 3))),
 (q_ 75 (.move (t_ 10))),
 (q_ 76 (.bin .add 3 (t_ 74) (t_ 75))),
 (q_ 77 (.iaddr 2 (t_ 73) (t_ 76))),
 (q_ 78 (.load 2 true (t_ 77))),
 (q_ 79 (.iaddr 2 (t_ 59) (t_ 62))),
 ⟨none, .store 2 (t_ 79) (t_ 72), none, false⟩,
 (q_ 80 (.iaddr 2 (t_ 63) (t_ 66))),
 ⟨none, .store 2 (t_ 80) (t_ 78), none, false⟩])
 (.region false [(q_ 81 (.move (t_ 11))),
 (q_ 10 (.move (t_ 81)))]))))))
/-- slices.siftDownCmpFunc[patchbay/api.FieldRef] -/
def ac86 : AC :=
 .seq (.region false [(q_ 12 (.move (t_ 1))),
 (q_ 10 (.move (t_ 12)))])
 (.block 0 (.loop ac86_L1))
theorem text86 : FnText Try.prog 86 [] 82 5 ac86 [] :=
 ⟨Try.call86, follows, Try.f86, _, Try.func86, rfl, rfl, by decide, by kernel_rfl, by kernel_rfl⟩

def ac57_L1 : AC :=
 .seq (.seq (.region false [(q_ 28 (.move (t_ 11))),
 (q_ 29 (.move (t_ 1))),
 (q_ 30 (.move (t_ 8))),
 (q_ 31 (.bin .quo 3 (t_ 30) (k_ 4))),
 (q_ 32 (.bin .mul 3 (t_ 31) (k_ 2))),
 (q_ 33 (.bin .add 3 (t_ 29) (t_ 32))),
 (q_ 34 (.bin .add 3 (t_ 33) (k_ 1))),
 (q_ 35 (.bin .leq 3 (t_ 28) (t_ 34)))])
 (.cond (t_ 35)
 (.skip)
 (.exit 0)))
 (.seq (.block 1 (.seq (.region false [(q_ 38 (.call (.func 88) [(t_ 9)])),
 (q_ 39 (.move (t_ 10))),
 (q_ 40 (.bin .sub 97 (t_ 39) (.const (.int .u64 1)))),
 (q_ 41 (.bin .and 97 (t_ 38) (t_ 40))),
 (q_ 42 (.conv 97 3 (t_ 41))),
 (q_ 12 (.move (t_ 42)))])
 (.seq (.seq (.region false [(q_ 43 (.move (t_ 12))),
 (q_ 44 (.move (t_ 8))),
 (q_ 45 (.bin .geq 3 (t_ 43) (t_ 44)))])
 (.cond (t_ 45)
 (.region false [(q_ 46 (.move (t_ 12))),
 (q_ 47 (.move (t_ 8))),
 (q_ 48 (.bin .sub 3 (t_ 46) (t_ 47))),
 (q_ 12 (.move (t_ 48)))])
 (.skip)))
 (.region true [(q_ 49 (.move (t_ 0))),
 (q_ 50 (.move (t_ 11))),
 ⟨(some 51), .move (t_ 0), none, true⟩,
 ⟨(some 52), .move (t_ 1), none, true⟩,
 ⟨(some 53), .move (t_ 12), none, true⟩,
 ⟨(some 54), .bin .add 3 (t_ 52) (t_ 53), none, true⟩,
 (q_ 55 (.move (t_ 0))),
 (q_ 56 (.move (t_ 1))),
 (q_ 57 (.move (t_ 12))),
 (q_ 58 (.bin .add 3 (t_ 56) (t_ 57))),
 (q_ 59 (.iaddr 2 (t_ 55) (t_ 58))),
 (q_ 60 (.load 2 true (t_ 59))),
 (q_ 61 (.move (t_ 0))),
 (q_ 62 (.move (t_ 11))),
 (q_ 63 (.iaddr 2 (t_ 61) (t_ 62))),
 (q_ 64 (.load 2 true (t_ 63))),
 (q_ 65 (.iaddr 2 (t_ 49) (t_ 50))),
 ⟨none, .store 2 (t_ 65) (t_ 60), none, false⟩,
 (q_ 66 (.iaddr 2 (t_ 51) (t_ 54))),
 ⟨none, .store 2 (t_ 66) (t_ 64), none, false⟩]))))
 (.region false [(q_ 36 (.move (t_ 11))),
 (q_ 37 (.bin .add 3 (t_ 36) (k_ 1))),
 (q_ 11 (.move (t_ 37)))]))
/-- slices.breakPatternsCmpFunc[patchbay/api.FieldRef] -/
def ac57 : AC :=
 .seq (.region false [(q_ 13 (.move (t_ 2))),
 (q_ 14 (.move (t_ 1))),
 (q_ 15 (.bin .sub 3 (t_ 13) (t_ 14))),
 (q_ 8 (.move (t_ 15)))])
 (.seq (.region false [(q_ 16 (.move (t_ 8))),
 (q_ 17 (.bin .geq 3 (t_ 16) (k_ 8)))])
 (.cond (t_ 17)
 (.seq (.region false [(q_ 18 (.move (t_ 8))),
 (q_ 19 (.conv 3 135 (t_ 18))),
 (q_ 9 (.alloc true 135 (.int .u64 0))),
 ⟨none, .store 1 (t_ 9) (t_ 19), none, false⟩])
 (.seq (.region false [(q_ 20 (.move (t_ 8))),
 (q_ 21 (.call (.func 87) [(t_ 20)])),
 (q_ 10 (.move (t_ 21)))])
 (.seq (.region false [(q_ 22 (.move (t_ 1))),
 (q_ 23 (.move (t_ 8))),
 (q_ 24 (.bin .quo 3 (t_ 23) (k_ 4))),
 (q_ 25 (.bin .mul 3 (t_ 24) (k_ 2))),
 (q_ 26 (.bin .add 3 (t_ 22) (t_ 25))),
 (q_ 27 (.bin .sub 3 (t_ 26) (k_ 1))),
 (q_ 11 (.move (t_ 27)))])
 (.block 0 (.loop ac57_L1)))))
 (.skip)))
theorem text57 : FnText Try.prog 57 [9] 67 4 ac57 [] :=
 ⟨Try.call57, follows, Try.f57, _, Try.func57, rfl, rfl, by decide, by kernel_rfl, by kernel_rfl⟩


/-- slices.nextPowerOfTwo -/
def ac87 : AC :=
 .seq (.region false [(q_ 2 (.move (.const (.int .u64 0))))])
 (.seq (.region false [(q_ 3 (.move (t_ 0))),
 (q_ 4 (.conv 3 97 (t_ 3))),
 (q_ 5 (.call (.func 42) [(t_ 4)])),
 (q_ 6 (.bin .shl 97 (.const (.int .u64 1)) (t_ 5))),
 (q_ 2 (.move (t_ 6)))])
 (.ret))
theorem text87 : FnText Try.prog 87 [] 7 1 ac87 [(2, none)] :=
 ⟨Try.call87, follows, Try.f87, _, Try.func87, rfl, rfl, by decide, by kernel_rfl, by kernel_rfl⟩


/-- (*slices.xorshift).Next -/
def ac88 : AC :=
 .seq (.region false [(q_ 2 (.move (.const (.int .u64 0))))])
 (.seq (.region true [(q_ 3 (.move (t_ 0))),
 (q_ 4 (.nilCheck (t_ 3))),
 (q_ 5 (.load 1 false (t_ 4))),
 (q_ 6 (.move (t_ 0))),
 (q_ 7 (.nilCheck (t_ 6))),
 (q_ 8 (.load 1 false (t_ 7))),
 (q_ 9 (.bin .shl 135 (t_ 8) (.const (.int .u64 13)))),
 (q_ 10 (.bin .xor 135 (t_ 5) (t_ 9))),
 (q_ 11 (.nilCheck (t_ 3))),
 ⟨none, .store 1 (t_ 11) (t_ 10), none, false⟩])
 (.seq (.region true [(q_ 12 (.move (t_ 0))),
 (q_ 13 (.nilCheck (t_ 12))),
 (q_ 14 (.load 1 false (t_ 13))),
 (q_ 15 (.move (t_ 0))),
 (q_ 16 (.nilCheck (t_ 15))),
 (q_ 17 (.load 1 false (t_ 16))),
 (q_ 18 (.bin .shr 135 (t_ 17) (.const (.int .u64 7)))),
 (q_ 19 (.bin .xor 135 (t_ 14) (t_ 18))),
 (q_ 20 (.nilCheck (t_ 12))),
 ⟨none, .store 1 (t_ 20) (t_ 19), none, false⟩])
 (.seq (.region true [(q_ 21 (.move (t_ 0))),
 (q_ 22 (.nilCheck (t_ 21))),
 (q_ 23 (.load 1 false (t_ 22))),
 (q_ 24 (.move (t_ 0))),
 (q_ 25 (.nilCheck (t_ 24))),
 (q_ 26 (.load 1 false (t_ 25))),
 (q_ 27 (.bin .shl 135 (t_ 26) (.const (.int .u64 17)))),
 (q_ 28 (.bin .xor 135 (t_ 23) (t_ 27))),
 (q_ 29 (.nilCheck (t_ 21))),
 ⟨none, .store 1 (t_ 29) (t_ 28), none, false⟩])
 (.seq (.region false [(q_ 30 (.move (t_ 0))),
 (q_ 31 (.nilCheck (t_ 30))),
 (q_ 32 (.load 1 false (t_ 31))),
 (q_ 2 (.move (t_ 32)))])
 (.ret)))))
theorem text88 : FnText Try.prog 88 [] 33 1 ac88 [(2, none)] :=
 ⟨Try.call88, follows, Try.f88, _, Try.func88, rfl, rfl, by decide, by kernel_rfl, by kernel_rfl⟩


/-- slices.choosePivotCmpFunc[patchbay/api.FieldRef] -/
def ac58 : AC :=
 .seq (.region false [(q_ 8 (.move (k_ 0))),
 (q_ 9 (.move (k_ 0)))])
 (.seq (.region false [(q_ 15 (.move (t_ 2))),
 (q_ 16 (.move (t_ 1))),
 (q_ 17 (.bin .sub 3 (t_ 15) (t_ 16))),
 (q_ 10 (.move (t_ 17)))])
 (.seq (.region false [(q_ 11 (.alloc true 3 (.int .i64 0)))])
 (.seq (.region false [(q_ 18 (.move (t_ 1))),
 (q_ 19 (.move (t_ 10))),
 (q_ 20 (.bin .quo 3 (t_ 19) (k_ 4))),
 (q_ 21 (.bin .mul 3 (t_ 20) (k_ 1))),
 (q_ 22 (.bin .add 3 (t_ 18) (t_ 21))),
 (q_ 12 (.move (t_ 22)))])
 (.seq (.region false [(q_ 23 (.move (t_ 1))),
 (q_ 24 (.move (t_ 10))),
 (q_ 25 (.bin .quo 3 (t_ 24) (k_ 4))),
 (q_ 26 (.bin .mul 3 (t_ 25) (k_ 2))),
 (q_ 27 (.bin .add 3 (t_ 23) (t_ 26))),
 (q_ 13 (.move (t_ 27)))])
 (.seq (.region false [(q_ 28 (.move (t_ 1))),
 (q_ 29 (.move (t_ 10))),
 (q_ 30 (.bin .quo 3 (t_ 29) (k_ 4))),
 (q_ 31 (.bin .mul 3 (t_ 30) (k_ 3))),
 (q_ 32 (.bin .add 3 (t_ 28) (t_ 31))),
 (q_ 14 (.move (t_ 32)))])
 (.seq (.seq (.region false [(q_ 33 (.move (t_ 10))),
 (q_ 34 (.bin .geq 3 (t_ 33) (k_ 8)))])
 (.cond (t_ 34)
 (.seq (.seq (.region false [(q_ 35 (.move (t_ 10))),
 (q_ 36 (.bin .geq 3 (t_ 35) (k_ 50)))])
 (.cond (t_ 36)
 (.seq (.region false [(q_ 37 (.move (t_ 0))),
 (q_ 38 (.move (t_ 12))),
 (q_ 39 (.move (t_ 3))),
 (q_ 40 (.call (.func 89) [(t_ 37), (t_ 38), (t_ 11), (t_ 39)])),
 (q_ 12 (.move (t_ 40)))])
 (.seq (.region false [(q_ 41 (.move (t_ 0))),
 (q_ 42 (.move (t_ 13))),
 (q_ 43 (.move (t_ 3))),
 (q_ 44 (.call (.func 89) [(t_ 41), (t_ 42), (t_ 11), (t_ 43)])),
 (q_ 13 (.move (t_ 44)))])
 (.region false [(q_ 45 (.move (t_ 0))),
 (q_ 46 (.move (t_ 14))),
 (q_ 47 (.move (t_ 3))),
 (q_ 48 (.call (.func 89) [(t_ 45), (t_ 46), (t_ 11), (t_ 47)])),
 (q_ 14 (.move (t_ 48)))])))
 (.skip)))
 (.region false [(q_ 49 (.move (t_ 0))),
 (q_ 50 (.move (t_ 12))),
 (q_ 51 (.move (t_ 13))),
 (q_ 52 (.move (t_ 14))),
 (q_ 53 (.move (t_ 3))),
 (q_ 54 (.call (.func 90) [(t_ 49), (t_ 50), (t_ 51), (t_ 52), (t_ 11), (t_ 53)])),
 (q_ 13 (.move (t_ 54)))]))
 (.skip)))
 (.seq (.region false [(q_ 55 (.load 1 false (t_ 11)))])
 (.block 0 (.seq (.region false [(q_ 58 (.bin .eql 3 (t_ 55) (k_ 0))),
 (q_ 57 (.move (t_ 58)))])
 (.cond (t_ 57)
 (.seq (.region false [(q_ 59 (.move (t_ 13))),
 (q_ 8 (.move (t_ 59))),
 (q_ 9 (.move (k_ 1)))])
 (.ret))
 (.seq (.region false [(q_ 61 (.bin .eql 3 (t_ 55) (k_ 12))),
 (q_ 60 (.move (t_ 61)))])
 (.cond (t_ 60)
 (.seq (.region false [(q_ 62 (.move (t_ 13))),
 (q_ 8 (.move (t_ 62))),
 (q_ 9 (.move (k_ 2)))])
 (.ret))
 (.seq (.region false [(q_ 56 (.move (t_ 13))),
 (q_ 8 (.move (t_ 56))),
 (q_ 9 (.move (k_ 0)))])
 (.ret))))))))))))))
theorem text58 : FnText Try.prog 58 [11] 63 4 ac58 [(8, none), (9, none)] :=
 ⟨Try.call58, follows, Try.f58, _, Try.func58, rfl, rfl, by decide, by kernel_rfl, by kernel_rfl⟩


/-- slices.medianAdjacentCmpFunc[patchbay/api.FieldRef] -/
def ac89 : AC :=
 .seq (.region false [(q_ 8 (.move (k_ 0)))])
 (.seq (.region false [(q_ 9 (.move (t_ 0))),
 (q_ 10 (.move (t_ 1))),
 (q_ 11 (.bin .sub 3 (t_ 10) (k_ 1))),
 (q_ 12 (.move (t_ 1))),
 (q_ 13 (.move (t_ 1))),
 (q_ 14 (.bin .add 3 (t_ 13) (k_ 1))),
 (q_ 15 (.move (t_ 2))),
 (q_ 16 (.move (t_ 3))),
 (q_ 17 (.call (.func 90) [(t_ 9), (t_ 11), (t_ 12), (t_ 14), (t_ 15), (t_ 16)])),
 (q_ 8 (.move (t_ 17)))])
 (.ret))
theorem text89 : FnText Try.prog 89 [] 18 4 ac89 [(8, none)] :=
 ⟨Try.call89, follows, Try.f89, _, Try.func89, rfl, rfl, by decide, by kernel_rfl, by kernel_rfl⟩


/-- slices.medianCmpFunc[patchbay/api.FieldRef] -/
def ac90 : AC :=
 .seq (.region false [(q_ 12 (.move (k_ 0)))])
 (.seq (.region false [(q_ 14 (.move (t_ 0))),
 (q_ 15 (.move (t_ 1))),
 (q_ 16 (.move (t_ 2))),
 (q_ 17 (.move (t_ 4))),
 (q_ 18 (.move (t_ 5))),
 (q_ 19 (.call (.func 95) [(t_ 14), (t_ 15), (t_ 16), (t_ 17), (t_ 18)])),
 (q_ 13 (.move (t_ 19))),
 (q_ 20 (.extract (t_ 13) 0)),
 (q_ 21 (.extract (t_ 13) 1)),
 (q_ 1 (.move (t_ 20))),
 (q_ 2 (.move (t_ 21)))])
 (.seq (.region false [(q_ 23 (.move (t_ 0))),
 (q_ 24 (.move (t_ 2))),
 (q_ 25 (.move (t_ 3))),
 (q_ 26 (.move (t_ 4))),
 (q_ 27 (.move (t_ 5))),
 (q_ 28 (.call (.func 95) [(t_ 23), (t_ 24), (t_ 25), (t_ 26), (t_ 27)])),
 (q_ 22 (.move (t_ 28))),
 (q_ 29 (.extract (t_ 22) 0)),
 (q_ 30 (.extract (t_ 22) 1)),
 (q_ 2 (.move (t_ 29))),
 (q_ 3 (.move (t_ 30)))])
 (.seq (.region false [(q_ 32 (.move (t_ 0))),
 (q_ 33 (.move (t_ 1))),
 (q_ 34 (.move (t_ 2))),
 (q_ 35 (.move (t_ 4))),
 (q_ 36 (.move (t_ 5))),
 (q_ 37 (.call (.func 95) [(t_ 32), (t_ 33), (t_ 34), (t_ 35), (t_ 36)])),
 (q_ 31 (.move (t_ 37))),
 (q_ 38 (.extract (t_ 31) 0)),
 (q_ 39 (.extract (t_ 31) 1)),
 (q_ 1 (.move (t_ 38))),
 (q_ 2 (.move (t_ 39)))])
 (.seq (.region false [(q_ 40 (.move (t_ 2))),
 (q_ 12 (.move (t_ 40)))])
 (.ret)))))
theorem text90 : FnText Try.prog 90 [] 41 6 ac90 [(12, none)] :=
 ⟨Try.call90, follows, Try.f90, _, Try.func90, rfl, rfl, by decide, by kernel_rfl, by kernel_rfl⟩


/-- slices.order2CmpFunc[patchbay/api.FieldRef] -/
def ac95 : AC :=
 .seq (.region false [(q_ 10 (.move (k_ 0))),
 (q_ 11 (.move (k_ 0)))])
 (.seq (.seq (.region true [(q_ 12 (.move (t_ 4))),
 (q_ 13 (.move (t_ 0))),
 (q_ 14 (.move (t_ 2))),
 (q_ 15 (.iaddr 2 (t_ 13) (t_ 14))),
 (q_ 16 (.load 2 true (t_ 15))),
 (q_ 17 (.move (t_ 0))),
 (q_ 18 (.move (t_ 1))),
 (q_ 19 (.iaddr 2 (t_ 17) (t_ 18))),
 (q_ 20 (.load 2 true (t_ 19))),
 (q_ 21 (.call (t_ 12) [(t_ 16), (t_ 20)])),
 (q_ 22 (.bin .lss 3 (t_ 21) (k_ 0)))])
 (.cond (t_ 22)
 (.seq (.region false [(q_ 23 (.move (t_ 3))),
 (q_ 24 (.nilCheck (t_ 23))),
 (q_ 25 (.load 1 false (t_ 24))),
 (q_ 26 (.bin .add 3 (t_ 25) (k_ 1))),
 (q_ 27 (.nilCheck (t_ 23))),
 ⟨none, .store 1 (t_ 27) (t_ 26), none, false⟩])
 (.seq (.region false [(q_ 28 (.move (t_ 2))),
 (q_ 29 (.move (t_ 1))),
 (q_ 10 (.move (t_ 28))),
 (q_ 11 (.move (t_ 29)))])
 (.ret)))
 (.skip)))
 (.seq (.region false [(q_ 30 (.move (t_ 1))),
 (q_ 31 (.move (t_ 2))),
 (q_ 10 (.move (t_ 30))),
 (q_ 11 (.move (t_ 31)))])
 (.ret)))
theorem text95 : FnText Try.prog 95 [] 32 5 ac95 [(10, none), (11, none)] :=
 ⟨Try.call95, follows, Try.f95, _, Try.func95, rfl, rfl, by decide, by kernel_rfl, by kernel_rfl⟩

def ac59_L1 : AC :=
 .seq (.seq (.region false [(q_ 13 (.move (t_ 8))),
 (q_ 14 (.move (t_ 9))),
 (q_ 15 (.bin .lss 3 (t_ 13) (t_ 14)))])
 (.cond (t_ 15)
 (.skip)
 (.exit 0)))
 (.block 1 (.seq (.region true [(q_ 16 (.move (t_ 0))),
 (q_ 17 (.move (t_ 8))),
 ⟨(some 18), .move (t_ 0), none, true⟩,
 ⟨(some 19), .move (t_ 9), none, true⟩,
 (q_ 20 (.move (t_ 0))),
 (q_ 21 (.move (t_ 9))),
 (q_ 22 (.iaddr 2 (t_ 20) (t_ 21))),
 (q_ 23 (.load 2 true (t_ 22))),
 (q_ 24 (.move (t_ 0))),
 (q_ 25 (.move (t_ 8))),
 (q_ 26 (.iaddr 2 (t_ 24) (t_ 25))),
 (q_ 27 (.load 2 true (t_ 26))),
 (q_ 28 (.iaddr 2 (t_ 16) (t_ 17))),
 ⟨none, .store 2 (t_ 28) (t_ 23), none, false⟩,
 (q_ 29 (.iaddr 2 (t_ 18) (t_ 19))),
 ⟨none, .store 2 (t_ 29) (t_ 27), none, false⟩])
 (.seq (.region false [(q_ 30 (.move (t_ 8))),
 (q_ 31 (.bin .add 3 (t_ 30) (k_ 1))),
 (q_ 8 (.move (t_ 31)))])
 (.region false [(q_ 32 (.move (t_ 9))),
 (q_ 33 (.bin .sub 3 (t_ 32) (k_ 1))),
 (q_ 9 (.move (t_ 33)))]))))
/-- slices.reverseRangeCmpFunc[patchbay/api.FieldRef] -/
def ac59 : AC :=
 .seq (.region false [(q_ 10 (.move (t_ 1))),
 (q_ 8 (.move (t_ 10)))])
 (.seq (.region false [(q_ 11 (.move (t_ 2))),
 (q_ 12 (.bin .sub 3 (t_ 11) (k_ 1))),
 (q_ 9 (.move (t_ 12)))])
 (.block 0 (.loop ac59_L1)))
theorem text59 : FnText Try.prog 59 [] 34 4 ac59 [] :=
 ⟨Try.call59, follows, Try.f59, _, Try.func59, rfl, rfl, by decide, by kernel_rfl, by kernel_rfl⟩

def ac60_G1 : List AOper :=
 [⟨(some 23), .move (t_ 3), (some (22, true)), false⟩,
 ⟨(some 24), .move (t_ 0), (some (22, true)), false⟩,
 ⟨(some 25), .move (t_ 9), (some (22, true)), false⟩,
 ⟨(some 26), .iaddr 2 (t_ 24) (t_ 25), (some (22, true)), false⟩,
 ⟨(some 27), .load 2 true (t_ 26), (some (22, true)), false⟩,
 ⟨(some 28), .move (t_ 0), (some (22, true)), false⟩,
 ⟨(some 29), .move (t_ 9), (some (22, true)), false⟩,
 ⟨(some 30), .bin .sub 3 (t_ 29) (k_ 1), (some (22, true)), false⟩,
 ⟨(some 31), .iaddr 2 (t_ 28) (t_ 30), (some (22, true)), false⟩,
 ⟨(some 32), .load 2 true (t_ 31), (some (22, true)), false⟩,
 ⟨(some 33), .call (t_ 23) [(t_ 27), (t_ 32)], (some (22, true)), false⟩,
 ⟨(some 34), .bin .lss 3 (t_ 33) (k_ 0), (some (22, true)), false⟩,
 ⟨(some 35), .un .not (t_ 34), (some (22, true)), false⟩,
 (q_ 36 (.pick (t_ 22) (t_ 35) (.const (.bool false))))]
def ac60_L2 : AC :=
 .seq (.seq (.region true ((q_ 19 (.move (t_ 9))) :: (q_ 20 (.move (t_ 2))) :: (q_ 21 (.bin .lss 3 (t_ 19) (t_ 20))) :: (q_ 22 (.move (t_ 21))) :: (ac60_G1 ++ [])))
 (.cond (t_ 36)
 (.skip)
 (.exit 2)))
 (.block 3 (.region false [(q_ 37 (.move (t_ 9))),
 (q_ 38 (.bin .add 3 (t_ 37) (k_ 1))),
 (q_ 9 (.move (t_ 38)))]))
def ac60_L3 : AC :=
 .seq (.seq (.region false [(q_ 68 (.move (t_ 11))),
 (q_ 69 (.bin .geq 3 (t_ 68) (k_ 1)))])
 (.cond (t_ 69)
 (.skip)
 (.exit 4)))
 (.seq (.block 5 (.seq (.seq (.region true [(q_ 72 (.move (t_ 3))),
 (q_ 73 (.move (t_ 0))),
 (q_ 74 (.move (t_ 11))),
 (q_ 75 (.iaddr 2 (t_ 73) (t_ 74))),
 (q_ 76 (.load 2 true (t_ 75))),
 (q_ 77 (.move (t_ 0))),
 (q_ 78 (.move (t_ 11))),
 (q_ 79 (.bin .sub 3 (t_ 78) (k_ 1))),
 (q_ 80 (.iaddr 2 (t_ 77) (t_ 79))),
 (q_ 81 (.load 2 true (t_ 80))),
 (q_ 82 (.call (t_ 72) [(t_ 76), (t_ 81)])),
 (q_ 83 (.bin .lss 3 (t_ 82) (k_ 0))),
 (q_ 84 (.un .not (t_ 83)))])
 (.cond (t_ 84)
 (.exit 4)
 (.skip)))
 (.region true [(q_ 85 (.move (t_ 0))),
 (q_ 86 (.move (t_ 11))),
 ⟨(some 87), .move (t_ 0), none, true⟩,
 ⟨(some 88), .move (t_ 11), none, true⟩,
 ⟨(some 89), .bin .sub 3 (t_ 88) (k_ 1), none, true⟩,
 (q_ 90 (.move (t_ 0))),
 (q_ 91 (.move (t_ 11))),
 (q_ 92 (.bin .sub 3 (t_ 91) (k_ 1))),
 (q_ 93 (.iaddr 2 (t_ 90) (t_ 92))),
 (q_ 94 (.load 2 true (t_ 93))),
 (q_ 95 (.move (t_ 0))),
 (q_ 96 (.move (t_ 11))),
 (q_ 97 (.iaddr 2 (t_ 95) (t_ 96))),
 (q_ 98 (.load 2 true (t_ 97))),
 (q_ 99 (.iaddr 2 (t_ 85) (t_ 86))),
 ⟨none, .store 2 (t_ 99) (t_ 94), none, false⟩,
 (q_ 100 (.iaddr 2 (t_ 87) (t_ 89))),
 ⟨none, .store 2 (t_ 100) (t_ 98), none, false⟩])))
 (.region false [(q_ 70 (.move (t_ 11))),
 (q_ 71 (.bin .sub 3 (t_ 70) (k_ 1))),
 (q_ 11 (.move (t_ 71)))]))
def ac60_L4 : AC :=
 .seq (.seq (.region false [(q_ 107 (.move (t_ 12))),
 (q_ 108 (.move (t_ 2))),
 (q_ 109 (.bin .lss 3 (t_ 107) (t_ 108)))])
 (.cond (t_ 109)
 (.skip)
 (.exit 6)))
 (.seq (.block 7 (.seq (.seq (.region true [(q_ 112 (.move (t_ 3))),
 (q_ 113 (.move (t_ 0))),
 (q_ 114 (.move (t_ 12))),
 (q_ 115 (.iaddr 2 (t_ 113) (t_ 114))),
 (q_ 116 (.load 2 true (t_ 115))),
 (q_ 117 (.move (t_ 0))),
 (q_ 118 (.move (t_ 12))),
 (q_ 119 (.bin .sub 3 (t_ 118) (k_ 1))),
 (q_ 120 (.iaddr 2 (t_ 117) (t_ 119))),
 (q_ 121 (.load 2 true (t_ 120))),
 (q_ 122 (.call (t_ 112) [(t_ 116), (t_ 121)])),
 (q_ 123 (.bin .lss 3 (t_ 122) (k_ 0))),
 (q_ 124 (.un .not (t_ 123)))])
 (.cond (t_ 124)
 (.exit 6)
 (.skip)))
 (.region true [(q_ 125 (.move (t_ 0))),
 (q_ 126 (.move (t_ 12))),
 ⟨(some 127), .move (t_ 0), none, true⟩,
 ⟨(some 128), .move (t_ 12), none, true⟩,
 ⟨(some 129), .bin .sub 3 (t_ 128) (k_ 1), none, true⟩,
 (q_ 130 (.move (t_ 0))),
 (q_ 131 (.move (t_ 12))),
 (q_ 132 (.bin .sub 3 (t_ 131) (k_ 1))),
 (q_ 133 (.iaddr 2 (t_ 130) (t_ 132))),
 (q_ 134 (.load 2 true (t_ 133))),
 (q_ 135 (.move (t_ 0))),
 (q_ 136 (.move (t_ 12))),
 (q_ 137 (.iaddr 2 (t_ 135) (t_ 136))),
 (q_ 138 (.load 2 true (t_ 137))),
 (q_ 139 (.iaddr 2 (t_ 125) (t_ 126))),
 ⟨none, .store 2 (t_ 139) (t_ 134), none, false⟩,
 (q_ 140 (.iaddr 2 (t_ 127) (t_ 129))),
 ⟨none, .store 2 (t_ 140) (t_ 138), none, false⟩])))
 (.region false [(q_ 110 (.move (t_ 12))),
 (q_ 111 (.bin .add 3 (t_ 110) (k_ 1))),
 (q_ 12 (.move (t_ 111)))]))
def ac60_L1 : AC :=
 .seq (.seq (.region false [(q_ 15 (.move (t_ 10))),
 (q_ 16 (.bin .lss 3 (t_ 15) (k_ 5)))])
 (.cond (t_ 16)
 (.skip)
 (.exit 0)))
 (.seq (.block 1 (.seq (.block 2 (.loop ac60_L2))
 (.seq (.seq (.region false [(q_ 39 (.move (t_ 9))),
 (q_ 40 (.move (t_ 2))),
 (q_ 41 (.bin .eql 3 (t_ 39) (t_ 40)))])
 (.cond (t_ 41)
 (.seq (.region false [(q_ 8 (.move (.const (.bool true))))])
 (.ret))
 (.skip)))
 (.seq (.seq (.region false [(q_ 42 (.move (t_ 2))),
 (q_ 43 (.move (t_ 1))),
 (q_ 44 (.bin .sub 3 (t_ 42) (t_ 43))),
 (q_ 45 (.bin .lss 3 (t_ 44) (k_ 50)))])
 (.cond (t_ 45)
 (.seq (.region false [(q_ 8 (.move (.const (.bool false))))])
 (.ret))
 (.skip)))
 (.seq (.region true [(q_ 46 (.move (t_ 0))),
 (q_ 47 (.move (t_ 9))),
 ⟨(some 48), .move (t_ 0), none, true⟩,
 ⟨(some 49), .move (t_ 9), none, true⟩,
 ⟨(some 50), .bin .sub 3 (t_ 49) (k_ 1), none, true⟩,
 (q_ 51 (.move (t_ 0))),
 (q_ 52 (.move (t_ 9))),
 (q_ 53 (.bin .sub 3 (t_ 52) (k_ 1))),
 (q_ 54 (.iaddr 2 (t_ 51) (t_ 53))),
 (q_ 55 (.load 2 true (t_ 54))),
 (q_ 56 (.move (t_ 0))),
 (q_ 57 (.move (t_ 9))),
 (q_ 58 (.iaddr 2 (t_ 56) (t_ 57))),
 (q_ 59 (.load 2 true (t_ 58))),
 (q_ 60 (.iaddr 2 (t_ 46) (t_ 47))),
 ⟨none, .store 2 (t_ 60) (t_ 55), none, false⟩,
 (q_ 61 (.iaddr 2 (t_ 48) (t_ 50))),
 ⟨none, .store 2 (t_ 61) (t_ 59), none, false⟩])
 (.seq (.seq (.region false [(q_ 62 (.move (t_ 9))),
 (q_ 63 (.move (t_ 1))),
 (q_ 64 (.bin .sub 3 (t_ 62) (t_ 63))),
 (q_ 65 (.bin .geq 3 (t_ 64) (k_ 2)))])
 (.cond (t_ 65)
 (.seq (.region false [(q_ 66 (.move (t_ 9))),
 (q_ 67 (.bin .sub 3 (t_ 66) (k_ 1))),
 (q_ 11 (.move (t_ 67)))])
 (.block 4 (.loop ac60_L3)))
 (.skip)))
 (.seq (.region false [(q_ 101 (.move (t_ 2))),
 (q_ 102 (.move (t_ 9))),
 (q_ 103 (.bin .sub 3 (t_ 101) (t_ 102))),
 (q_ 104 (.bin .geq 3 (t_ 103) (k_ 2)))])
 (.cond (t_ 104)
 (.seq (.region false [(q_ 105 (.move (t_ 9))),
 (q_ 106 (.bin .add 3 (t_ 105) (k_ 1))),
 (q_ 12 (.move (t_ 106)))])
 (.block 6 (.loop ac60_L4)))
 (.skip)))))))))
 (.region false [(q_ 17 (.move (t_ 10))),
 (q_ 18 (.bin .add 3 (t_ 17) (k_ 1))),
 (q_ 10 (.move (t_ 18)))]))
/-- slices.partialInsertionSortCmpFunc[patchbay/api.FieldRef] -/
def ac60 : AC :=
 .seq (.region false [(q_ 8 (.move (.const (.bool false))))])
 (.seq (.region false [(q_ 13 (.move (t_ 1))),
 (q_ 14 (.bin .add 3 (t_ 13) (k_ 1))),
 (q_ 9 (.move (t_ 14)))])
 (.seq (.seq (.region false [(q_ 10 (.move (k_ 0)))])
 (.block 0 (.loop ac60_L1)))
 (.seq (.region false [(q_ 8 (.move (.const (.bool false))))])
 (.ret))))
theorem text60 : FnText Try.prog 60 [] 141 4 ac60 [(8, none)] :=
 ⟨Try.call60, follows, Try.f60, _, Try.func60, rfl, rfl, by decide, by kernel_rfl, by kernel_rfl⟩

def ac61_G1 : List AOper :=
 [⟨(some 35), .move (t_ 4), (some (34, true)), false⟩,
 ⟨(some 36), .move (t_ 0), (some (34, true)), false⟩,
 ⟨(some 37), .move (t_ 1), (some (34, true)), false⟩,
 ⟨(some 38), .iaddr 2 (t_ 36) (t_ 37), (some (34, true)), false⟩,
 ⟨(some 39), .load 2 true (t_ 38), (some (34, true)), false⟩,
 ⟨(some 40), .move (t_ 0), (some (34, true)), false⟩,
 ⟨(some 41), .move (t_ 11), (some (34, true)), false⟩,
 ⟨(some 42), .iaddr 2 (t_ 40) (t_ 41), (some (34, true)), false⟩,
 ⟨(some 43), .load 2 true (t_ 42), (some (34, true)), false⟩,
 ⟨(some 44), .call (t_ 35) [(t_ 39), (t_ 43)], (some (34, true)), false⟩,
 ⟨(some 45), .bin .lss 3 (t_ 44) (k_ 0), (some (34, true)), false⟩,
 ⟨(some 46), .un .not (t_ 45), (some (34, true)), false⟩,
 (q_ 47 (.pick (t_ 34) (t_ 46) (.const (.bool false))))]
def ac61_L2 : AC :=
 .seq (.seq (.region true ((q_ 31 (.move (t_ 11))) :: (q_ 32 (.move (t_ 12))) :: (q_ 33 (.bin .leq 3 (t_ 31) (t_ 32))) :: (q_ 34 (.move (t_ 33))) :: (ac61_G1 ++ [])))
 (.cond (t_ 47)
 (.skip)
 (.exit 2)))
 (.block 3 (.region false [(q_ 48 (.move (t_ 11))),
 (q_ 49 (.bin .add 3 (t_ 48) (k_ 1))),
 (q_ 11 (.move (t_ 49)))]))
def ac61_G2 : List AOper :=
 [⟨(some 54), .move (t_ 4), (some (53, true)), false⟩,
 ⟨(some 55), .move (t_ 0), (some (53, true)), false⟩,
 ⟨(some 56), .move (t_ 1), (some (53, true)), false⟩,
 ⟨(some 57), .iaddr 2 (t_ 55) (t_ 56), (some (53, true)), false⟩,
 ⟨(some 58), .load 2 true (t_ 57), (some (53, true)), false⟩,
 ⟨(some 59), .move (t_ 0), (some (53, true)), false⟩,
 ⟨(some 60), .move (t_ 12), (some (53, true)), false⟩,
 ⟨(some 61), .iaddr 2 (t_ 59) (t_ 60), (some (53, true)), false⟩,
 ⟨(some 62), .load 2 true (t_ 61), (some (53, true)), false⟩,
 ⟨(some 63), .call (t_ 54) [(t_ 58), (t_ 62)], (some (53, true)), false⟩,
 ⟨(some 64), .bin .lss 3 (t_ 63) (k_ 0), (some (53, true)), false⟩,
 (q_ 65 (.pick (t_ 53) (t_ 64) (.const (.bool false))))]
def ac61_L3 : AC :=
 .seq (.seq (.region true ((q_ 50 (.move (t_ 11))) :: (q_ 51 (.move (t_ 12))) :: (q_ 52 (.bin .leq 3 (t_ 50) (t_ 51))) :: (q_ 53 (.move (t_ 52))) :: (ac61_G2 ++ [])))
 (.cond (t_ 65)
 (.skip)
 (.exit 4)))
 (.block 5 (.region false [(q_ 66 (.move (t_ 12))),
 (q_ 67 (.bin .sub 3 (t_ 66) (k_ 1))),
 (q_ 12 (.move (t_ 67)))]))
def ac61_L1 : AC :=
 .block 1 (.seq (.block 2 (.loop ac61_L2))
 (.seq (.block 4 (.loop ac61_L3))
 (.seq (.seq (.region false [(q_ 68 (.move (t_ 11))),
 (q_ 69 (.move (t_ 12))),
 (q_ 70 (.bin .gtr 3 (t_ 68) (t_ 69)))])
 (.cond (t_ 70)
 (.exit 0)
 (.skip)))
 (.seq (.region true [(q_ 71 (.move (t_ 0))),
 (q_ 72 (.move (t_ 11))),
 ⟨(some 73), .move (t_ 0), none, true⟩,
 ⟨(some 74), .move (t_ 12), none, true⟩,
 (q_ 75 (.move (t_ 0))),
 (q_ 76 (.move (t_ 12))),
 (q_ 77 (.iaddr 2 (t_ 75) (t_ 76))),
 (q_ 78 (.load 2 true (t_ 77))),
 (q_ 79 (.move (t_ 0))),
 (q_ 80 (.move (t_ 11))),
 (q_ 81 (.iaddr 2 (t_ 79) (t_ 80))),
 (q_ 82 (.load 2 true (t_ 81))),
 (q_ 83 (.iaddr 2 (t_ 71) (t_ 72))),
 ⟨none, .store 2 (t_ 83) (t_ 78), none, false⟩,
 (q_ 84 (.iaddr 2 (t_ 73) (t_ 74))),
 ⟨none, .store 2 (t_ 84) (t_ 82), none, false⟩])
 (.seq (.region false [(q_ 85 (.move (t_ 11))),
 (q_ 86 (.bin .add 3 (t_ 85) (k_ 1))),
 (q_ 11 (.move (t_ 86)))])
 (.region false [(q_ 87 (.move (t_ 12))),
 (q_ 88 (.bin .sub 3 (t_ 87) (k_ 1))),
 (q_ 12 (.move (t_ 88)))]))))))
/-- slices.partitionEqualCmpFunc[patchbay/api.FieldRef] -/
def ac61 : AC :=
 .seq (.region false [(q_ 10 (.move (k_ 0)))])
 (.seq (.region true [(q_ 13 (.move (t_ 0))),
 (q_ 14 (.move (t_ 1))),
 ⟨(some 15), .move (t_ 0), none, true⟩,
 ⟨(some 16), .move (t_ 3), none, true⟩,
 (q_ 17 (.move (t_ 0))),
 (q_ 18 (.move (t_ 3))),
 (q_ 19 (.iaddr 2 (t_ 17) (t_ 18))),
 (q_ 20 (.load 2 true (t_ 19))),
 (q_ 21 (.move (t_ 0))),
 (q_ 22 (.move (t_ 1))),
 (q_ 23 (.iaddr 2 (t_ 21) (t_ 22))),
 (q_ 24 (.load 2 true (t_ 23))),
 (q_ 25 (.iaddr 2 (t_ 13) (t_ 14))),
 ⟨none, .store 2 (t_ 25) (t_ 20), none, false⟩,
 (q_ 26 (.iaddr 2 (t_ 15) (t_ 16))),
 ⟨none, .store 2 (t_ 26) (t_ 24), none, false⟩])
 (.seq (.region false [(q_ 27 (.move (t_ 1))),
 (q_ 28 (.bin .add 3 (t_ 27) (k_ 1))),
 (q_ 29 (.move (t_ 2))),
 (q_ 30 (.bin .sub 3 (t_ 29) (k_ 1))),
 (q_ 11 (.move (t_ 28))),
 (q_ 12 (.move (t_ 30)))])
 (.seq (.block 0 (.loop ac61_L1))
 (.seq (.region false [(q_ 89 (.move (t_ 11))),
 (q_ 10 (.move (t_ 89)))])
 (.ret)))))
theorem text61 : FnText Try.prog 61 [] 90 5 ac61 [(10, none)] :=
 ⟨Try.call61, follows, Try.f61, _, Try.func61, rfl, rfl, by decide, by kernel_rfl, by kernel_rfl⟩

def ac62_G1 : List AOper :=
 [⟨(some 36), .move (t_ 4), (some (35, true)), false⟩,
 ⟨(some 37), .move (t_ 0), (some (35, true)), false⟩,
 ⟨(some 38), .move (t_ 12), (some (35, true)), false⟩,
 ⟨(some 39), .iaddr 2 (t_ 37) (t_ 38), (some (35, true)), false⟩,
 ⟨(some 40), .load 2 true (t_ 39), (some (35, true)), false⟩,
 ⟨(some 41), .move (t_ 0), (some (35, true)), false⟩,
 ⟨(some 42), .move (t_ 1), (some (35, true)), false⟩,
 ⟨(some 43), .iaddr 2 (t_ 41) (t_ 42), (some (35, true)), false⟩,
 ⟨(some 44), .load 2 true (t_ 43), (some (35, true)), false⟩,
 ⟨(some 45), .call (t_ 36) [(t_ 40), (t_ 44)], (some (35, true)), false⟩,
 ⟨(some 46), .bin .lss 3 (t_ 45) (k_ 0), (some (35, true)), false⟩,
 (q_ 47 (.pick (t_ 35) (t_ 46) (.const (.bool false))))]
def ac62_L1 : AC :=
 .seq (.seq (.region true ((q_ 32 (.move (t_ 12))) :: (q_ 33 (.move (t_ 13))) :: (q_ 34 (.bin .leq 3 (t_ 32) (t_ 33))) :: (q_ 35 (.move (t_ 34))) :: (ac62_G1 ++ [])))
 (.cond (t_ 47)
 (.skip)
 (.exit 0)))
 (.block 1 (.region false [(q_ 48 (.move (t_ 12))),
 (q_ 49 (.bin .add 3 (t_ 48) (k_ 1))),
 (q_ 12 (.move (t_ 49)))]))
def ac62_G2 : List AOper :=
 [⟨(some 54), .move (t_ 4), (some (53, true)), false⟩,
 ⟨(some 55), .move (t_ 0), (some (53, true)), false⟩,
 ⟨(some 56), .move (t_ 13), (some (53, true)), false⟩,
 ⟨(some 57), .iaddr 2 (t_ 55) (t_ 56), (some (53, true)), false⟩,
 ⟨(some 58), .load 2 true (t_ 57), (some (53, true)), false⟩,
 ⟨(some 59), .move (t_ 0), (some (53, true)), false⟩,
 ⟨(some 60), .move (t_ 1), (some (53, true)), false⟩,
 ⟨(some 61), .iaddr 2 (t_ 59) (t_ 60), (some (53, true)), false⟩,
 ⟨(some 62), .load 2 true (t_ 61), (some (53, true)), false⟩,
 ⟨(some 63), .call (t_ 54) [(t_ 58), (t_ 62)], (some (53, true)), false⟩,
 ⟨(some 64), .bin .lss 3 (t_ 63) (k_ 0), (some (53, true)), false⟩,
 ⟨(some 65), .un .not (t_ 64), (some (53, true)), false⟩,
 (q_ 66 (.pick (t_ 53) (t_ 65) (.const (.bool false))))]
def ac62_L2 : AC :=
 .seq (.seq (.region true ((q_ 50 (.move (t_ 12))) :: (q_ 51 (.move (t_ 13))) :: (q_ 52 (.bin .leq 3 (t_ 50) (t_ 51))) :: (q_ 53 (.move (t_ 52))) :: (ac62_G2 ++ [])))
 (.cond (t_ 66)
 (.skip)
 (.exit 2)))
 (.block 3 (.region false [(q_ 67 (.move (t_ 13))),
 (q_ 68 (.bin .sub 3 (t_ 67) (k_ 1))),
 (q_ 13 (.move (t_ 68)))]))
def ac62_G3 : List AOper :=
 [⟨(some 109), .move (t_ 4), (some (108, true)), false⟩,
 ⟨(some 110), .move (t_ 0), (some (108, true)), false⟩,
 ⟨(some 111), .move (t_ 12), (some (108, true)), false⟩,
 ⟨(some 112), .iaddr 2 (t_ 110) (t_ 111), (some (108, true)), false⟩,
 ⟨(some 113), .load 2 true (t_ 112), (some (108, true)), false⟩,
 ⟨(some 114), .move (t_ 0), (some (108, true)), false⟩,
 ⟨(some 115), .move (t_ 1), (some (108, true)), false⟩,
 ⟨(some 116), .iaddr 2 (t_ 114) (t_ 115), (some (108, true)), false⟩,
 ⟨(some 117), .load 2 true (t_ 116), (some (108, true)), false⟩,
 ⟨(some 118), .call (t_ 109) [(t_ 113), (t_ 117)], (some (108, true)), false⟩,
 ⟨(some 119), .bin .lss 3 (t_ 118) (k_ 0), (some (108, true)), false⟩,
 (q_ 120 (.pick (t_ 108) (t_ 119) (.const (.bool false))))]
def ac62_L4 : AC :=
 .seq (.seq (.region true ((q_ 105 (.move (t_ 12))) :: (q_ 106 (.move (t_ 13))) :: (q_ 107 (.bin .leq 3 (t_ 105) (t_ 106))) :: (q_ 108 (.move (t_ 107))) :: (ac62_G3 ++ [])))
 (.cond (t_ 120)
 (.skip)
 (.exit 6)))
 (.block 7 (.region false [(q_ 121 (.move (t_ 12))),
 (q_ 122 (.bin .add 3 (t_ 121) (k_ 1))),
 (q_ 12 (.move (t_ 122)))]))
def ac62_G4 : List AOper :=
 [⟨(some 127), .move (t_ 4), (some (126, true)), false⟩,
 ⟨(some 128), .move (t_ 0), (some (126, true)), false⟩,
 ⟨(some 129), .move (t_ 13), (some (126, true)), false⟩,
 ⟨(some 130), .iaddr 2 (t_ 128) (t_ 129), (some (126, true)), false⟩,
 ⟨(some 131), .load 2 true (t_ 130), (some (126, true)), false⟩,
 ⟨(some 132), .move (t_ 0), (some (126, true)), false⟩,
 ⟨(some 133), .move (t_ 1), (some (126, true)), false⟩,
 ⟨(some 134), .iaddr 2 (t_ 132) (t_ 133), (some (126, true)), false⟩,
 ⟨(some 135), .load 2 true (t_ 134), (some (126, true)), false⟩,
 ⟨(some 136), .call (t_ 127) [(t_ 131), (t_ 135)], (some (126, true)), false⟩,
 ⟨(some 137), .bin .lss 3 (t_ 136) (k_ 0), (some (126, true)), false⟩,
 ⟨(some 138), .un .not (t_ 137), (some (126, true)), false⟩,
 (q_ 139 (.pick (t_ 126) (t_ 138) (.const (.bool false))))]
def ac62_L5 : AC :=
 .seq (.seq (.region true ((q_ 123 (.move (t_ 12))) :: (q_ 124 (.move (t_ 13))) :: (q_ 125 (.bin .leq 3 (t_ 123) (t_ 124))) :: (q_ 126 (.move (t_ 125))) :: (ac62_G4 ++ [])))
 (.cond (t_ 139)
 (.skip)
 (.exit 8)))
 (.block 9 (.region false [(q_ 140 (.move (t_ 13))),
 (q_ 141 (.bin .sub 3 (t_ 140) (k_ 1))),
 (q_ 13 (.move (t_ 141)))]))
def ac62_L3 : AC :=
 .block 5 (.seq (.block 6 (.loop ac62_L4))
 (.seq (.block 8 (.loop ac62_L5))
 (.seq (.seq (.region false [(q_ 142 (.move (t_ 12))),
 (q_ 143 (.move (t_ 13))),
 (q_ 144 (.bin .gtr 3 (t_ 142) (t_ 143)))])
 (.cond (t_ 144)
 (.exit 4)
 (.skip)))
 (.seq (.region true [(q_ 145 (.move (t_ 0))),
 (q_ 146 (.move (t_ 12))),
 ⟨(some 147), .move (t_ 0), none, true⟩,
 ⟨(some 148), .move (t_ 13), none, true⟩,
 (q_ 149 (.move (t_ 0))),
 (q_ 150 (.move (t_ 13))),
 (q_ 151 (.iaddr 2 (t_ 149) (t_ 150))),
 (q_ 152 (.load 2 true (t_ 151))),
 (q_ 153 (.move (t_ 0))),
 (q_ 154 (.move (t_ 12))),
 (q_ 155 (.iaddr 2 (t_ 153) (t_ 154))),
 (q_ 156 (.load 2 true (t_ 155))),
 (q_ 157 (.iaddr 2 (t_ 145) (t_ 146))),
 ⟨none, .store 2 (t_ 157) (t_ 152), none, false⟩,
 (q_ 158 (.iaddr 2 (t_ 147) (t_ 148))),
 ⟨none, .store 2 (t_ 158) (t_ 156), none, false⟩])
 (.seq (.region false [(q_ 159 (.move (t_ 12))),
 (q_ 160 (.bin .add 3 (t_ 159) (k_ 1))),
 (q_ 12 (.move (t_ 160)))])
 (.region false [(q_ 161 (.move (t_ 13))),
 (q_ 162 (.bin .sub 3 (t_ 161) (k_ 1))),
 (q_ 13 (.move (t_ 162)))]))))))
/-- slices.partitionCmpFunc[patchbay/api.FieldRef] -/
def ac62 : AC :=
 .seq (.region false [(q_ 10 (.move (k_ 0))),
 (q_ 11 (.move (.const (.bool false))))])
 (.seq (.region true [(q_ 14 (.move (t_ 0))),
 (q_ 15 (.move (t_ 1))),
 ⟨(some 16), .move (t_ 0), none, true⟩,
 ⟨(some 17), .move (t_ 3), none, true⟩,
 (q_ 18 (.move (t_ 0))),
 (q_ 19 (.move (t_ 3))),
 (q_ 20 (.iaddr 2 (t_ 18) (t_ 19))),
 (q_ 21 (.load 2 true (t_ 20))),
 (q_ 22 (.move (t_ 0))),
 (q_ 23 (.move (t_ 1))),
 (q_ 24 (.iaddr 2 (t_ 22) (t_ 23))),
 (q_ 25 (.load 2 true (t_ 24))),
 (q_ 26 (.iaddr 2 (t_ 14) (t_ 15))),
 ⟨none, .store 2 (t_ 26) (t_ 21), none, false⟩,
 (q_ 27 (.iaddr 2 (t_ 16) (t_ 17))),
 ⟨none, .store 2 (t_ 27) (t_ 25), none, false⟩])
 (.seq (.region false [(q_ 28 (.move (t_ 1))),
 (q_ 29 (.bin .add 3 (t_ 28) (k_ 1))),
 (q_ 30 (.move (t_ 2))),
 (q_ 31 (.bin .sub 3 (t_ 30) (k_ 1))),
 (q_ 12 (.move (t_ 29))),
 (q_ 13 (.move (t_ 31)))])
 (.seq (.block 0 (.loop ac62_L1))
 (.seq (.block 2 (.loop ac62_L2))
 (.seq (.seq (.region false [(q_ 69 (.move (t_ 12))),
 (q_ 70 (.move (t_ 13))),
 (q_ 71 (.bin .gtr 3 (t_ 69) (t_ 70)))])
 (.cond (t_ 71)
 (.seq (.region true [(q_ 72 (.move (t_ 0))),
 (q_ 73 (.move (t_ 13))),
 ⟨(some 74), .move (t_ 0), none, true⟩,
 ⟨(some 75), .move (t_ 1), none, true⟩,
 (q_ 76 (.move (t_ 0))),
 (q_ 77 (.move (t_ 1))),
 (q_ 78 (.iaddr 2 (t_ 76) (t_ 77))),
 (q_ 79 (.load 2 true (t_ 78))),
 (q_ 80 (.move (t_ 0))),
 (q_ 81 (.move (t_ 13))),
 (q_ 82 (.iaddr 2 (t_ 80) (t_ 81))),
 (q_ 83 (.load 2 true (t_ 82))),
 (q_ 84 (.iaddr 2 (t_ 72) (t_ 73))),
 ⟨none, .store 2 (t_ 84) (t_ 79), none, false⟩,
 (q_ 85 (.iaddr 2 (t_ 74) (t_ 75))),
 ⟨none, .store 2 (t_ 85) (t_ 83), none, false⟩])
 (.seq (.region false [(q_ 86 (.move (t_ 13))),
 (q_ 10 (.move (t_ 86))),
 (q_ 11 (.move (.const (.bool true))))])
 (.ret)))
 (.skip)))
 (.seq (.region true [(q_ 87 (.move (t_ 0))),
 (q_ 88 (.move (t_ 12))),
 ⟨(some 89), .move (t_ 0), none, true⟩,
 ⟨(some 90), .move (t_ 13), none, true⟩,
 (q_ 91 (.move (t_ 0))),
 (q_ 92 (.move (t_ 13))),
 (q_ 93 (.iaddr 2 (t_ 91) (t_ 92))),
 (q_ 94 (.load 2 true (t_ 93))),
 (q_ 95 (.move (t_ 0))),
 (q_ 96 (.move (t_ 12))),
 (q_ 97 (.iaddr 2 (t_ 95) (t_ 96))),
 (q_ 98 (.load 2 true (t_ 97))),
 (q_ 99 (.iaddr 2 (t_ 87) (t_ 88))),
 ⟨none, .store 2 (t_ 99) (t_ 94), none, false⟩,
 (q_ 100 (.iaddr 2 (t_ 89) (t_ 90))),
 ⟨none, .store 2 (t_ 100) (t_ 98), none, false⟩])
 (.seq (.region false [(q_ 101 (.move (t_ 12))),
 (q_ 102 (.bin .add 3 (t_ 101) (k_ 1))),
 (q_ 12 (.move (t_ 102)))])
 (.seq (.region false [(q_ 103 (.move (t_ 13))),
 (q_ 104 (.bin .sub 3 (t_ 103) (k_ 1))),
 (q_ 13 (.move (t_ 104)))])
 (.seq (.block 4 (.loop ac62_L3))
 (.seq (.region true [(q_ 163 (.move (t_ 0))),
 (q_ 164 (.move (t_ 13))),
 ⟨(some 165), .move (t_ 0), none, true⟩,
 ⟨(some 166), .move (t_ 1), none, true⟩,
 (q_ 167 (.move (t_ 0))),
 (q_ 168 (.move (t_ 1))),
 (q_ 169 (.iaddr 2 (t_ 167) (t_ 168))),
 (q_ 170 (.load 2 true (t_ 169))),
 (q_ 171 (.move (t_ 0))),
 (q_ 172 (.move (t_ 13))),
 (q_ 173 (.iaddr 2 (t_ 171) (t_ 172))),
 (q_ 174 (.load 2 true (t_ 173))),
 (q_ 175 (.iaddr 2 (t_ 163) (t_ 164))),
 ⟨none, .store 2 (t_ 175) (t_ 170), none, false⟩,
 (q_ 176 (.iaddr 2 (t_ 165) (t_ 166))),
 ⟨none, .store 2 (t_ 176) (t_ 174), none, false⟩])
 (.seq (.region false [(q_ 177 (.move (t_ 13))),
 (q_ 10 (.move (t_ 177))),
 (q_ 11 (.move (.const (.bool false))))])
 (.ret))))))))))))
theorem text62 : FnText Try.prog 62 [] 178 5 ac62 [(10, none), (11, none)] :=
 ⟨Try.call62, follows, Try.f62, _, Try.func62, rfl, rfl, by decide, by kernel_rfl, by kernel_rfl⟩

def ac11_L1 : AC :=
 .seq (.seq (.region false [(q_ 11 (.move (t_ 5))),
 (q_ 12 (.move (t_ 0))),
 (q_ 13 (.bi .len [52].toArray 3 [(t_ 12)])),
 (q_ 14 (.bin .lss 3 (t_ 11) (t_ 13)))])
 (.cond (t_ 14)
 (.skip)
 (.exit 0)))
 (.seq (.block 1 (.seq (.region true [(q_ 17 (.move (t_ 0))),
 (q_ 18 (.move (t_ 5))),
 (q_ 19 (.iaddr 2 (t_ 17) (t_ 18))),
 (q_ 20 (.load 2 true (t_ 19))),
 (q_ 21 (.move (t_ 1))),
 (q_ 22 (.move (t_ 5))),
 (q_ 23 (.iaddr 2 (t_ 21) (t_ 22))),
 (q_ 24 (.load 2 true (t_ 23))),
 (q_ 25 (.bin .neq 60 (t_ 20) (t_ 24)))])
 (.cond (t_ 25)
 (.seq (.region false [(q_ 4 (.move (.const (.bool false))))])
 (.ret))
 (.skip))))
 (.region false [(q_ 15 (.move (t_ 5))),
 (q_ 16 (.bin .add 3 (t_ 15) (k_ 1))),
 (q_ 5 (.move (t_ 16)))]))
/-- patchbay/patchbayref13.EqualFields -/
def ac11 : AC :=
 .seq (.region false [(q_ 4 (.move (.const (.bool false))))])
 (.seq (.seq (.region false [(q_ 6 (.move (t_ 0))),
 (q_ 7 (.bi .len [52].toArray 3 [(t_ 6)])),
 (q_ 8 (.move (t_ 1))),
 (q_ 9 (.bi .len [52].toArray 3 [(t_ 8)])),
 (q_ 10 (.bin .neq 3 (t_ 7) (t_ 9)))])
 (.cond (t_ 10)
 (.seq (.region false [(q_ 4 (.move (.const (.bool false))))])
 (.ret))
 (.skip)))
 (.seq (.seq (.region false [(q_ 5 (.move (k_ 0)))])
 (.block 0 (.loop ac11_L1)))
 (.seq (.region false [(q_ 4 (.move (.const (.bool true))))])
 (.ret))))
theorem text11 : FnText Try.prog 11 [] 26 2 ac11 [(4, none)] :=
 ⟨Try.call11, follows, Try.f11, _, Try.func11, rfl, rfl, by decide, by kernel_rfl, by kernel_rfl⟩

def ac45_G1 : List AOper :=
 [⟨(some 63), .move (t_ 9), (some (62, true)), false⟩,
 (q_ 64 (.pick (t_ 62) (t_ 63) (.const (.bool false))))]
def ac45_G2 : List AOper :=
 [⟨(some 66), .move (t_ 12), (some (65, true)), false⟩,
 ⟨(some 67), .bin .eql 112 (t_ 66) (k_ 1), (some (65, true)), false⟩,
 (q_ 68 (.pick (t_ 65) (t_ 67) (.const (.bool false))))]
def ac45_G3 : List AOper :=
 [⟨(some 76), .move (t_ 0), (some (75, true)), false⟩,
 ⟨(some 77), .move (t_ 1), (some (75, true)), false⟩,
 ⟨(some 78), .bin .sub 3 (t_ 77) (k_ 1), (some (75, true)), false⟩,
 ⟨(some 79), .iaddr 1 (t_ 76) (t_ 78), (some (75, true)), false⟩,
 ⟨(some 80), .load 1 false (t_ 79), (some (75, true)), false⟩,
 ⟨(some 81), .move (t_ 0), (some (75, true)), false⟩,
 ⟨(some 82), .move (t_ 11), (some (75, true)), false⟩,
 ⟨(some 83), .iaddr 1 (t_ 81) (t_ 82), (some (75, true)), false⟩,
 ⟨(some 84), .load 1 false (t_ 83), (some (75, true)), false⟩,
 ⟨(some 85), .call (.func 71) [(t_ 80), (t_ 84)], (some (75, true)), false⟩,
 ⟨(some 86), .un .not (t_ 85), (some (75, true)), false⟩,
 (q_ 87 (.pick (t_ 75) (t_ 86) (.const (.bool false))))]
def ac45_L1 : AC :=
 .block 1 (.seq (.region false [(q_ 19 (.move (t_ 2))),
 (q_ 20 (.move (t_ 1))),
 (q_ 21 (.bin .sub 3 (t_ 19) (t_ 20))),
 (q_ 10 (.move (t_ 21)))])
 (.seq (.seq (.region false [(q_ 22 (.move (t_ 10))),
 (q_ 23 (.bin .leq 3 (t_ 22) (k_ 12)))])
 (.cond (t_ 23)
 (.seq (.region false [(q_ 24 (.move (t_ 0))),
 (q_ 25 (.move (t_ 1))),
 (q_ 26 (.move (t_ 2))),
 (q_ 27 (.call (.func 65) [(t_ 24), (t_ 25), (t_ 26)]))])
 (.ret))
 (.skip)))
 (.seq (.seq (.region false [(q_ 28 (.move (t_ 3))),
 (q_ 29 (.bin .eql 3 (t_ 28) (k_ 0)))])
 (.cond (t_ 29)
 (.seq (.region false [(q_ 30 (.move (t_ 0))),
 (q_ 31 (.move (t_ 1))),
 (q_ 32 (.move (t_ 2))),
 (q_ 33 (.call (.func 66) [(t_ 30), (t_ 31), (t_ 32)]))])
 (.ret))
 (.skip)))
 (.seq (.seq (.region false [(q_ 34 (.move (t_ 8))),
 (q_ 35 (.un .not (t_ 34)))])
 (.cond (t_ 35)
 (.seq (.region false [(q_ 36 (.move (t_ 0))),
 (q_ 37 (.move (t_ 1))),
 (q_ 38 (.move (t_ 2))),
 (q_ 39 (.call (.func 67) [(t_ 36), (t_ 37), (t_ 38)]))])
 (.region false [(q_ 40 (.move (t_ 3))),
 (q_ 41 (.bin .sub 3 (t_ 40) (k_ 1))),
 (q_ 3 (.move (t_ 41)))]))
 (.skip)))
 (.seq (.region false [(q_ 43 (.move (t_ 0))),
 (q_ 44 (.move (t_ 1))),
 (q_ 45 (.move (t_ 2))),
 (q_ 46 (.call (.func 68) [(t_ 43), (t_ 44), (t_ 45)])),
 (q_ 42 (.move (t_ 46))),
 (q_ 47 (.extract (t_ 42) 0)),
 (q_ 48 (.extract (t_ 42) 1)),
 (q_ 11 (.move (t_ 47))),
 (q_ 12 (.move (t_ 48)))])
 (.seq (.seq (.region false [(q_ 49 (.move (t_ 12))),
 (q_ 50 (.bin .eql 112 (t_ 49) (k_ 2)))])
 (.cond (t_ 50)
 (.seq (.region false [(q_ 51 (.move (t_ 0))),
 (q_ 52 (.move (t_ 1))),
 (q_ 53 (.move (t_ 2))),
 (q_ 54 (.call (.func 69) [(t_ 51), (t_ 52), (t_ 53)]))])
 (.seq (.region false [(q_ 55 (.move (t_ 2))),
 (q_ 56 (.bin .sub 3 (t_ 55) (k_ 1))),
 (q_ 57 (.move (t_ 11))),
 (q_ 58 (.move (t_ 1))),
 (q_ 59 (.bin .sub 3 (t_ 57) (t_ 58))),
 (q_ 60 (.bin .sub 3 (t_ 56) (t_ 59))),
 (q_ 11 (.move (t_ 60)))])
 (.region false [(q_ 12 (.move (k_ 1)))])))
 (.skip)))
 (.seq (.seq (.region false ((q_ 61 (.move (t_ 8))) :: (q_ 62 (.move (t_ 61))) :: (ac45_G1 ++ ((q_ 65 (.move (t_ 64))) :: (ac45_G2 ++ [])))))
 (.cond (t_ 68)
 (.seq (.region false [(q_ 69 (.move (t_ 0))),
 (q_ 70 (.move (t_ 1))),
 (q_ 71 (.move (t_ 2))),
 (q_ 72 (.call (.func 70) [(t_ 69), (t_ 70), (t_ 71)]))])
 (.cond (t_ 72)
 (.ret)
 (.skip)))
 (.skip)))
 (.seq (.seq (.region true ((q_ 73 (.move (t_ 1))) :: (q_ 74 (.bin .gtr 3 (t_ 73) (k_ 0))) :: (q_ 75 (.move (t_ 74))) :: (ac45_G3 ++ [])))
 (.cond (t_ 87)
 (.seq (.region false [(q_ 88 (.move (t_ 0))),
 (q_ 89 (.move (t_ 1))),
 (q_ 90 (.move (t_ 2))),
 (q_ 91 (.move (t_ 11))),
 (q_ 92 (.call (.func 72) [(t_ 88), (t_ 89), (t_ 90), (t_ 91)])),
 (q_ 13 (.move (t_ 92)))])
 (.seq (.region false [(q_ 93 (.move (t_ 13))),
 (q_ 1 (.move (t_ 93)))])
 (.exit 1)))
 (.skip)))
 (.seq (.region false [(q_ 95 (.move (t_ 0))),
 (q_ 96 (.move (t_ 1))),
 (q_ 97 (.move (t_ 2))),
 (q_ 98 (.move (t_ 11))),
 (q_ 99 (.call (.func 73) [(t_ 95), (t_ 96), (t_ 97), (t_ 98)])),
 (q_ 94 (.move (t_ 99))),
 (q_ 100 (.extract (t_ 94) 0)),
 (q_ 101 (.extract (t_ 94) 1)),
 (q_ 14 (.move (t_ 100))),
 (q_ 15 (.move (t_ 101)))])
 (.seq (.region false [(q_ 102 (.move (t_ 15))),
 (q_ 9 (.move (t_ 102)))])
 (.seq (.region false [(q_ 103 (.move (t_ 14))),
 (q_ 104 (.move (t_ 1))),
 (q_ 105 (.bin .sub 3 (t_ 103) (t_ 104))),
 (q_ 106 (.move (t_ 2))),
 (q_ 107 (.move (t_ 14))),
 (q_ 108 (.bin .sub 3 (t_ 106) (t_ 107))),
 (q_ 16 (.move (t_ 105))),
 (q_ 17 (.move (t_ 108)))])
 (.seq (.region false [(q_ 109 (.move (t_ 10))),
 (q_ 110 (.bin .quo 3 (t_ 109) (k_ 8))),
 (q_ 18 (.move (t_ 110)))])
 (.seq (.region false [(q_ 111 (.move (t_ 16))),
 (q_ 112 (.move (t_ 17))),
 (q_ 113 (.bin .lss 3 (t_ 111) (t_ 112)))])
 (.cond (t_ 113)
 (.seq (.region false [(q_ 114 (.move (t_ 16))),
 (q_ 115 (.move (t_ 18))),
 (q_ 116 (.bin .geq 3 (t_ 114) (t_ 115))),
 (q_ 8 (.move (t_ 116)))])
 (.seq (.region false [(q_ 117 (.move (t_ 0))),
 (q_ 118 (.move (t_ 1))),
 (q_ 119 (.move (t_ 14))),
 (q_ 120 (.move (t_ 3))),
 (q_ 121 (.call (.func 45) [(t_ 117), (t_ 118), (t_ 119), (t_ 120)]))])
 (.region false [(q_ 122 (.move (t_ 14))),
 (q_ 123 (.bin .add 3 (t_ 122) (k_ 1))),
 (q_ 1 (.move (t_ 123)))])))
 (.seq (.region false [(q_ 124 (.move (t_ 17))),
 (q_ 125 (.move (t_ 18))),
 (q_ 126 (.bin .geq 3 (t_ 124) (t_ 125))),
 (q_ 8 (.move (t_ 126)))])
 (.seq (.region false [(q_ 127 (.move (t_ 0))),
 (q_ 128 (.move (t_ 14))),
 (q_ 129 (.bin .add 3 (t_ 128) (k_ 1))),
 (q_ 130 (.move (t_ 2))),
 (q_ 131 (.move (t_ 3))),
 (q_ 132 (.call (.func 45) [(t_ 127), (t_ 129), (t_ 130), (t_ 131)]))])
 (.region false [(q_ 133 (.move (t_ 14))),
 (q_ 2 (.move (t_ 133)))])))))))))))))))))
/-- slices.pdqsortOrdered[int] -/
def ac45 : AC :=
 .seq (.region false [(q_ 8 (.move (.const (.bool true))))])
 (.seq (.region false [(q_ 9 (.move (.const (.bool true))))])
 (.block 0 (.loop ac45_L1)))
theorem text45 : FnText Try.prog 45 [] 134 4 ac45 [] :=
 ⟨Try.call45, follows, Try.f45, _, Try.func45, rfl, rfl, by decide, by kernel_rfl, by kernel_rfl⟩

end Go.Proofs.Ytnejfbehaembkaa
