/-
 The text of each function of this seat,as the plain library tells it;each by the kernel's own reckoning from the program.
-/
import Derived.Test.YtmonnlkagniolaaPbWp
import Derived.Test.YtmonnlkagniolaaRows
set_option linter.unusedVariables false
set_option maxRecDepth 100000
namespace Go.Proofs.Ytmonnlkagniolaa
open Go Go.Pb
abbrev q_(d:Nat)(o:AOp):AOper:=⟨some d,o,none,false⟩
abbrev t_(n:Nat):Operand:= .tmp n
abbrev k_(i:Int):Operand:= .const (.int .i64 i)
abbrev m_(d n:Nat):AOper:=⟨some d,.move (.tmp n),none,false⟩
abbrev l_(d n:Nat):AOper:=⟨some d,.load 1 false (.tmp n),none,false⟩
abbrev f_(d a n:Nat):AOper:=⟨some d,.faddr a 1 false (.tmp n),none,false⟩
abbrev n_(d a n:Nat):AOper:=⟨some d,.bi .len [a].toArray 3 [.tmp n],none,false⟩
abbrev r_(l:List AOper):AC:= .region false l
abbrev z_:Operand:= .const (.slice none 0 0)
theorem follows:Try.prog.follows .mixedOrders=true:=by kernel_rfl
def ac10_G1:List AOper:=
 [⟨(some 14),.move (t_ 5),(some (13,true)),false⟩,
 ⟨(some 15),.bin .lss 3 (t_ 14) (k_ 100),(some (13,true)),false⟩,
 (q_ 16 (.pick (t_ 13) (t_ 15) (.const (.bool false))))]
def ac10_G2:List AOper:=
 [⟨(some 22),.move (t_ 0),(some (21,false)),false⟩,
 ⟨(some 23),.move (t_ 6),(some (21,false)),false⟩,
 ⟨(some 24),.iaddr 5 (t_ 22) (t_ 23),(some (21,false)),false⟩,
 ⟨(some 25),.faddr 2 1 false (t_ 24),(some (21,false)),false⟩,
 ⟨(some 26),.load 1 false (t_ 25),(some (21,false)),false⟩,
 ⟨(some 27),.bi .len [32].toArray 3 [(t_ 26)],(some (21,false)),false⟩,
 ⟨(some 28),.bin .gtr 3 (t_ 27) (k_ 40),(some (21,false)),false⟩,
 (q_ 29 (.pick (t_ 21) (.const (.bool true)) (t_ 28)))]
def ac10_L1:AC:=
 .seq (.seq (r_ (m_ 9 6::m_ 10 0::n_ 11 28 10::(q_ 12 (.bin .lss 3 (t_ 9) (t_ 11)))::m_ 13 12::(ac10_G1++[])))
 (.cond (t_ 16)
 (.skip)
 (.exit 0)))
 (.seq (.block 1 (.seq (.seq (r_ (m_ 19 1::(q_ 20 (.bin .eql 3 (t_ 19) (k_ 0)))::m_ 21 20::(ac10_G2++[])))
 (.cond (t_ 29)
 (.seq (r_ [q_ 4 (.move (k_ 100))])
 (.ret))
 (.skip)))
 (.region true [m_ 30 5,
 m_ 31 0,
 m_ 32 6,
 q_ 33 (.iaddr 5 (t_ 31) (t_ 32)),
 f_ 34 3 33,
 l_ 35 34,
 m_ 36 1,
 q_ 37 (.bin .sub 3 (t_ 36) (k_ 1)),
 q_ 38 (.call (.func 10) [(t_ 35),(t_ 37)]),
 q_ 39 (.bin .add 3 (t_ 30) (t_ 38)),
 m_ 40 0,
 m_ 41 6,
 q_ 42 (.iaddr 5 (t_ 40) (t_ 41)),
 f_ 43 4 42,
 l_ 44 43,
 m_ 45 1,
 q_ 46 (.bin .sub 3 (t_ 45) (k_ 1)),
 q_ 47 (.call (.func 10) [(t_ 44),(t_ 46)]),
 q_ 48 (.bin .add 3 (t_ 39) (t_ 47)),
 m_ 5 48])))
 (r_ [m_ 17 6,
 q_ 18 (.bin .add 3 (t_ 17) (k_ 1)),
 m_ 6 18]))
/-- patchbay/patchbaylaw21.nodes -/
def ac10:AC:=
 .seq (r_ [q_ 4 (.move (k_ 0))])
 (.seq (r_ [m_ 7 0,
 n_ 8 28 7,
 m_ 5 8])
 (.seq (.seq (r_ [q_ 6 (.move (k_ 0))])
 (.block 0 (.loop ac10_L1)))
 (.seq (r_ [m_ 49 5,
 m_ 4 49])
 (.ret))))
theorem text10:FnText Try.prog 10 [] 50 2 ac10 [(4,none)]:=
 ⟨Try.call10,follows,Try.f10,_,Try.func10,rfl,rfl,by decide,by kernel_rfl,by kernel_rfl⟩
def ac11_G1:List AOper:=
 [⟨(some 9),.faddr 1 1 false (t_ 1),(some (8,false)),false⟩,
 ⟨(some 10),.load 1 false (t_ 9),(some (8,false)),false⟩,
 ⟨(some 11),.bi .len [23].toArray 3 [(t_ 10)],(some (8,false)),false⟩,
 ⟨(some 12),.bin .gtr 3 (t_ 11) (k_ 20),(some (8,false)),false⟩,
 (q_ 13 (.pick (t_ 8) (.const (.bool true)) (t_ 12)))]
def ac11_L1:AC:=
 .seq (.seq (r_ [m_ 14 3,
 f_ 15 1 1,
 l_ 16 15,
 n_ 17 23 16,
 q_ 18 (.bin .lss 3 (t_ 14) (t_ 17))])
 (.cond (t_ 18)
 (.skip)
 (.exit 0)))
 (.seq (.block 1 (.seq (r_ [f_ 21 1 1,
 l_ 22 21,
 m_ 23 3,
 q_ 24 (.iaddr 2 (t_ 22) (t_ 23)),
 f_ 25 0 24,
 l_ 26 25,
 n_ 27 9 26,
 q_ 28 (.bin .gtr 3 (t_ 27) (k_ 30))])
 (.cond (t_ 28)
 (.seq (r_ [(q_ 2 (.move (.const (.bool false))))])
 (.ret))
 (.skip))))
 (r_ [m_ 19 3,
 q_ 20 (.bin .add 3 (t_ 19) (k_ 1)),
 m_ 3 20]))
/-- patchbay/patchbayref11.Small -/
def ac11:AC:=
 .seq (r_ [q_ 1 (.box false 45 (t_ 0)),
 (q_ 2 (.move (.const (.bool false))))])
 (.seq (.seq (r_ (f_ 4 0 1::l_ 5 4::n_ 6 9 5::(q_ 7 (.bin .gtr 3 (t_ 6) (k_ 30)))::m_ 8 7::(ac11_G1++[])))
 (.cond (t_ 13)
 (.seq (r_ [(q_ 2 (.move (.const (.bool false))))])
 (.ret))
 (.skip)))
 (.seq (.seq (r_ [q_ 3 (.move (k_ 0))])
 (.block 0 (.loop ac11_L1)))
 (.seq (r_ [(q_ 2 (.move (.const (.bool true))))])
 (.ret))))
theorem text11:FnText Try.prog 11 [] 29 1 ac11 [(2,none)]:=
 ⟨Try.call11,follows,Try.f11,_,Try.func11,rfl,rfl,by decide,by kernel_rfl,by kernel_rfl⟩
def ac12_G1:List AOper:=
 [⟨(some 9),.faddr 2 1 false (t_ 1),(some (8,false)),false⟩,
 ⟨(some 10),.load 1 false (t_ 9),(some (8,false)),false⟩,
 ⟨(some 11),.bi .len [47].toArray 3 [(t_ 10)],(some (8,false)),false⟩,
 ⟨(some 12),.bin .gtr 3 (t_ 11) (k_ 16),(some (8,false)),false⟩,
 (q_ 13 (.pick (t_ 8) (.const (.bool true)) (t_ 12)))]
def ac12_G2:List AOper:=
 [⟨(some 15),.faddr 0 1 false (t_ 1),(some (14,false)),false⟩,
 ⟨(some 16),.load 1 false (t_ 15),(some (14,false)),false⟩,
 ⟨(some 17),.bi .len [9].toArray 3 [(t_ 16)],(some (14,false)),false⟩,
 ⟨(some 18),.bin .gtr 3 (t_ 17) (k_ 60),(some (14,false)),false⟩,
 (q_ 19 (.pick (t_ 14) (.const (.bool true)) (t_ 18)))]
def ac12_G3:List AOper:=
 [⟨(some 36),.faddr 2 1 false (t_ 1),(some (35,false)),false⟩,
 ⟨(some 37),.load 1 false (t_ 36),(some (35,false)),false⟩,
 ⟨(some 38),.move (t_ 3),(some (35,false)),false⟩,
 ⟨(some 39),.iaddr 7 (t_ 37) (t_ 38),(some (35,false)),false⟩,
 ⟨(some 40),.faddr 6 1 false (t_ 39),(some (35,false)),false⟩,
 ⟨(some 41),.load 1 false (t_ 40),(some (35,false)),false⟩,
 ⟨(some 42),.bi .len [32].toArray 3 [(t_ 41)],(some (35,false)),false⟩,
 ⟨(some 43),.bin .gtr 3 (t_ 42) (k_ 40),(some (35,false)),false⟩,
 (q_ 44 (.pick (t_ 35) (.const (.bool true)) (t_ 43)))]
def ac12_L1:AC:=
 .seq (.seq (r_ [m_ 20 3,
 f_ 21 2 1,
 l_ 22 21,
 n_ 23 47 22,
 q_ 24 (.bin .lss 3 (t_ 20) (t_ 23))])
 (.cond (t_ 24)
 (.skip)
 (.exit 0)))
 (.seq (.block 1 (.seq (r_ (f_ 27 2 1::l_ 28 27::m_ 29 3::(q_ 30 (.iaddr 7 (t_ 28) (t_ 29)))::f_ 31 5 30::l_ 32 31::n_ 33 32 32::(q_ 34 (.bin .gtr 3 (t_ 33) (k_ 40)))::m_ 35 34::(ac12_G3++[])))
 (.cond (t_ 44)
 (.seq (r_ [(q_ 2 (.move (.const (.bool true))))])
 (.ret))
 (.skip))))
 (r_ [m_ 25 3,
 q_ 26 (.bin .add 3 (t_ 25) (k_ 1)),
 m_ 3 26]))
/-- patchbay/patchbaylaw21.largeAction -/
def ac12:AC:=
 .seq (r_ [q_ 1 (.box false 49 (t_ 0)),
 (q_ 2 (.move (.const (.bool false))))])
 (.seq (.seq (r_ (f_ 4 1 1::l_ 5 4::n_ 6 23 5::(q_ 7 (.bin .gtr 3 (t_ 6) (k_ 8)))::m_ 8 7::(ac12_G1++(m_ 14 13::(ac12_G2++[])))))
 (.cond (t_ 19)
 (.seq (r_ [(q_ 2 (.move (.const (.bool true))))])
 (.ret))
 (.skip)))
 (.seq (.seq (r_ [q_ 3 (.move (k_ 0))])
 (.block 0 (.loop ac12_L1)))
 (.seq (r_ [(q_ 2 (.move (.const (.bool false))))])
 (.ret))))
theorem text12:FnText Try.prog 12 [] 45 1 ac12 [(2,none)]:=
 ⟨Try.call12,follows,Try.f12,_,Try.func12,rfl,rfl,by decide,by kernel_rfl,by kernel_rfl⟩
def ac13_G1:List AOper:=
 [⟨(some 8),.faddr 5 1 false (t_ 1),(some (7,false)),false⟩,
 ⟨(some 9),.load 1 false (t_ 8),(some (7,false)),false⟩,
 ⟨(some 10),.bi .len [59].toArray 3 [(t_ 9)],(some (7,false)),false⟩,
 ⟨(some 11),.bin .gtr 3 (t_ 10) (k_ 12),(some (7,false)),false⟩,
 (q_ 12 (.pick (t_ 7) (.const (.bool true)) (t_ 11)))]
def ac13_G2:List AOper:=
 [⟨(some 14),.faddr 0 1 false (t_ 1),(some (13,false)),false⟩,
 ⟨(some 15),.load 1 false (t_ 14),(some (13,false)),false⟩,
 ⟨(some 16),.bi .len [9].toArray 3 [(t_ 15)],(some (13,false)),false⟩,
 ⟨(some 17),.bin .gtr 3 (t_ 16) (k_ 60),(some (13,false)),false⟩,
 (q_ 18 (.pick (t_ 13) (.const (.bool true)) (t_ 17)))]
/-- patchbay/patchbaylaw21.largeState -/
def ac13:AC:=
 .seq (r_ [q_ 1 (.box false 61 (t_ 0)),
 (q_ 2 (.move (.const (.bool false))))])
 (.seq (r_ (f_ 3 1 1::l_ 4 3::n_ 5 29 4::(q_ 6 (.bin .gtr 3 (t_ 5) (k_ 8)))::m_ 7 6::(ac13_G1++(m_ 13 12::(ac13_G2++[m_ 2 18])))))
 (.ret))
theorem text13:FnText Try.prog 13 [] 19 1 ac13 [(2,none)]:=
 ⟨Try.call13,follows,Try.f13,_,Try.func13,rfl,rfl,by decide,by kernel_rfl,by kernel_rfl⟩
def ac4_G1:List AOper:=
 [⟨(some 12),.faddr 1 1 false (t_ 1),(some (11,false)),false⟩,
 ⟨(some 13),.load 1 false (t_ 12),(some (11,false)),false⟩,
 ⟨(some 14),.bi .len [22].toArray 3 [(t_ 13)],(some (11,false)),false⟩,
 ⟨(some 15),.bin .gtr 3 (t_ 14) (k_ 16),(some (11,false)),false⟩,
 (q_ 16 (.pick (t_ 11) (.const (.bool true)) (t_ 15)))]
def ac4_G2:List AOper:=
 [⟨(some 18),.faddr 2 1 false (t_ 1),(some (17,false)),false⟩,
 ⟨(some 19),.load 1 false (t_ 18),(some (17,false)),false⟩,
 ⟨(some 20),.bi .len [23].toArray 3 [(t_ 19)],(some (17,false)),false⟩,
 ⟨(some 21),.bin .gtr 3 (t_ 20) (k_ 20),(some (17,false)),false⟩,
 (q_ 22 (.pick (t_ 17) (.const (.bool true)) (t_ 21)))]
def ac4_G3:List AOper:=
 [⟨(some 24),.faddr 3 1 false (t_ 1),(some (23,false)),false⟩,
 ⟨(some 25),.load 1 false (t_ 24),(some (23,false)),false⟩,
 ⟨(some 26),.bi .len [24].toArray 3 [(t_ 25)],(some (23,false)),false⟩,
 ⟨(some 27),.bin .gtr 3 (t_ 26) (k_ 8),(some (23,false)),false⟩,
 (q_ 28 (.pick (t_ 23) (.const (.bool true)) (t_ 27)))]
def ac4_G4:List AOper:=
 [⟨(some 30),.faddr 4 1 false (t_ 1),(some (29,false)),false⟩,
 ⟨(some 31),.load 1 false (t_ 30),(some (29,false)),false⟩,
 ⟨(some 32),.bi .len [25].toArray 3 [(t_ 31)],(some (29,false)),false⟩,
 ⟨(some 33),.bin .gtr 3 (t_ 32) (k_ 24),(some (29,false)),false⟩,
 (q_ 34 (.pick (t_ 29) (.const (.bool true)) (t_ 33)))]
def ac4_G5:List AOper:=
 [⟨(some 36),.faddr 5 1 false (t_ 1),(some (35,false)),false⟩,
 ⟨(some 37),.load 1 false (t_ 36),(some (35,false)),false⟩,
 ⟨(some 38),.bi .len [26].toArray 3 [(t_ 37)],(some (35,false)),false⟩,
 ⟨(some 39),.bin .gtr 3 (t_ 38) (k_ 16),(some (35,false)),false⟩,
 (q_ 40 (.pick (t_ 35) (.const (.bool true)) (t_ 39)))]
def ac4_G6:List AOper:=
 [⟨(some 42),.faddr 6 1 false (t_ 1),(some (41,false)),false⟩,
 ⟨(some 43),.load 1 false (t_ 42),(some (41,false)),false⟩,
 ⟨(some 44),.bi .len [27].toArray 3 [(t_ 43)],(some (41,false)),false⟩,
 ⟨(some 45),.bin .gtr 3 (t_ 44) (k_ 16),(some (41,false)),false⟩,
 (q_ 46 (.pick (t_ 41) (.const (.bool true)) (t_ 45)))]
def ac4_G7:List AOper:=
 [⟨(some 48),.faddr 8 1 false (t_ 1),(some (47,false)),false⟩,
 ⟨(some 49),.load 1 false (t_ 48),(some (47,false)),false⟩,
 ⟨(some 50),.bi .len [29].toArray 3 [(t_ 49)],(some (47,false)),false⟩,
 ⟨(some 51),.bin .gtr 3 (t_ 50) (k_ 16),(some (47,false)),false⟩,
 (q_ 52 (.pick (t_ 47) (.const (.bool true)) (t_ 51)))]
def ac4_G8:List AOper:=
 [⟨(some 54),.faddr 7 1 false (t_ 1),(some (53,false)),false⟩,
 ⟨(some 55),.load 1 false (t_ 54),(some (53,false)),false⟩,
 ⟨(some 56),.call (.func 10) [(t_ 55),(k_ 10)],(some (53,false)),false⟩,
 ⟨(some 57),.bin .gtr 3 (t_ 56) (k_ 60),(some (53,false)),false⟩,
 (q_ 58 (.pick (t_ 53) (.const (.bool true)) (t_ 57)))]
def ac4_L1:AC:=
 .seq (.seq (r_ [m_ 59 3,
 f_ 60 1 1,
 l_ 61 60,
 n_ 62 22 61,
 q_ 63 (.bin .lss 3 (t_ 59) (t_ 62))])
 (.cond (t_ 63)
 (.skip)
 (.exit 0)))
 (.seq (.block 1 (.seq (r_ [f_ 66 1 1,
 l_ 67 66,
 m_ 68 3,
 q_ 69 (.iaddr 2 (t_ 67) (t_ 68)),
 q_ 70 (.load 2 true (t_ 69)),
 q_ 71 (.call (.func 11) [(t_ 70)]),
 q_ 72 (.un .not (t_ 71))])
 (.cond (t_ 72)
 (.seq (r_ [(q_ 2 (.move (.const (.bool true))))])
 (.ret))
 (.skip))))
 (r_ [m_ 64 3,
 q_ 65 (.bin .add 3 (t_ 64) (k_ 1)),
 m_ 3 65]))
def ac4_L2:AC:=
 .seq (.seq (r_ [m_ 73 4,
 f_ 74 4 1,
 l_ 75 74,
 n_ 76 25 75,
 q_ 77 (.bin .lss 3 (t_ 73) (t_ 76))])
 (.cond (t_ 77)
 (.skip)
 (.exit 2)))
 (.seq (.block 3 (.seq (r_ [f_ 80 4 1,
 l_ 81 80,
 m_ 82 4,
 q_ 83 (.iaddr 3 (t_ 81) (t_ 82)),
 q_ 84 (.load 3 true (t_ 83)),
 q_ 85 (.call (.func 12) [(t_ 84)])])
 (.cond (t_ 85)
 (.seq (r_ [(q_ 2 (.move (.const (.bool true))))])
 (.ret))
 (.skip))))
 (r_ [m_ 78 4,
 q_ 79 (.bin .add 3 (t_ 78) (k_ 1)),
 m_ 4 79]))
def ac4_G9:List AOper:=
 [⟨(some 102),.faddr 5 1 false (t_ 1),(some (101,false)),false⟩,
 ⟨(some 103),.load 1 false (t_ 102),(some (101,false)),false⟩,
 ⟨(some 104),.move (t_ 5),(some (101,false)),false⟩,
 ⟨(some 105),.iaddr 6 (t_ 103) (t_ 104),(some (101,false)),false⟩,
 ⟨(some 106),.faddr 2 1 false (t_ 105),(some (101,false)),false⟩,
 ⟨(some 107),.load 1 false (t_ 106),(some (101,false)),false⟩,
 ⟨(some 108),.bi .len [29].toArray 3 [(t_ 107)],(some (101,false)),false⟩,
 ⟨(some 109),.bin .gtr 3 (t_ 108) (k_ 24),(some (101,false)),false⟩,
 (q_ 110 (.pick (t_ 101) (.const (.bool true)) (t_ 109)))]
def ac4_G10:List AOper:=
 [⟨(some 112),.faddr 5 1 false (t_ 1),(some (111,false)),false⟩,
 ⟨(some 113),.load 1 false (t_ 112),(some (111,false)),false⟩,
 ⟨(some 114),.move (t_ 5),(some (111,false)),false⟩,
 ⟨(some 115),.iaddr 6 (t_ 113) (t_ 114),(some (111,false)),false⟩,
 ⟨(some 116),.faddr 3 2 true (t_ 115),(some (111,false)),false⟩,
 ⟨(some 117),.faddr 1 1 false (t_ 116),(some (111,false)),false⟩,
 ⟨(some 118),.load 1 false (t_ 117),(some (111,false)),false⟩,
 ⟨(some 119),.bi .len [51].toArray 3 [(t_ 118)],(some (111,false)),false⟩,
 ⟨(some 120),.bin .gtr 3 (t_ 119) (k_ 8),(some (111,false)),false⟩,
 (q_ 121 (.pick (t_ 111) (.const (.bool true)) (t_ 120)))]
def ac4_G11:List AOper:=
 [⟨(some 123),.faddr 5 1 false (t_ 1),(some (122,false)),false⟩,
 ⟨(some 124),.load 1 false (t_ 123),(some (122,false)),false⟩,
 ⟨(some 125),.move (t_ 5),(some (122,false)),false⟩,
 ⟨(some 126),.iaddr 6 (t_ 124) (t_ 125),(some (122,false)),false⟩,
 ⟨(some 127),.faddr 0 1 false (t_ 126),(some (122,false)),false⟩,
 ⟨(some 128),.load 1 false (t_ 127),(some (122,false)),false⟩,
 ⟨(some 129),.bi .len [9].toArray 3 [(t_ 128)],(some (122,false)),false⟩,
 ⟨(some 130),.bin .gtr 3 (t_ 129) (k_ 60),(some (122,false)),false⟩,
 (q_ 131 (.pick (t_ 122) (.const (.bool true)) (t_ 130)))]
def ac4_L3:AC:=
 .seq (.seq (r_ [m_ 86 5,
 f_ 87 5 1,
 l_ 88 87,
 n_ 89 26 88,
 q_ 90 (.bin .lss 3 (t_ 86) (t_ 89))])
 (.cond (t_ 90)
 (.skip)
 (.exit 4)))
 (.seq (.block 5 (.seq (r_ (f_ 93 5 1::l_ 94 93::m_ 95 5::(q_ 96 (.iaddr 6 (t_ 94) (t_ 95)))::f_ 97 1 96::l_ 98 97::n_ 99 50 98::(q_ 100 (.bin .gtr 3 (t_ 99) (k_ 10)))::m_ 101 100::(ac4_G9++(m_ 111 110::(ac4_G10++(m_ 122 121::(ac4_G11++[])))))))
 (.cond (t_ 131)
 (.seq (r_ [(q_ 2 (.move (.const (.bool true))))])
 (.ret))
 (.skip))))
 (r_ [m_ 91 5,
 q_ 92 (.bin .add 3 (t_ 91) (k_ 1)),
 m_ 5 92]))
def ac4_L4:AC:=
 .seq (.seq (r_ [m_ 132 6,
 f_ 133 6 1,
 l_ 134 133,
 n_ 135 27 134,
 q_ 136 (.bin .lss 3 (t_ 132) (t_ 135))])
 (.cond (t_ 136)
 (.skip)
 (.exit 6)))
 (.seq (.block 7 (.seq (r_ [f_ 139 6 1,
 l_ 140 139,
 m_ 141 6,
 q_ 142 (.iaddr 7 (t_ 140) (t_ 141)),
 q_ 143 (.load 7 true (t_ 142)),
 q_ 144 (.call (.func 13) [(t_ 143)])])
 (.cond (t_ 144)
 (.seq (r_ [(q_ 2 (.move (.const (.bool true))))])
 (.ret))
 (.skip))))
 (r_ [m_ 137 6,
 q_ 138 (.bin .add 3 (t_ 137) (k_ 1)),
 m_ 6 138]))
/-- patchbay/patchbaylaw21.TooLarge -/
def ac4:AC:=
 .seq (r_ [q_ 1 (.box false 31 (t_ 0)),
 (q_ 2 (.move (.const (.bool false))))])
 (.seq (.seq (r_ (f_ 7 0 1::l_ 8 7::n_ 9 9 8::(q_ 10 (.bin .gtr 3 (t_ 9) (k_ 60)))::m_ 11 10::(ac4_G1++(m_ 17 16::(ac4_G2++(m_ 23 22::(ac4_G3++(m_ 29 28::(ac4_G4++(m_ 35 34::(ac4_G5++(m_ 41 40::(ac4_G6++(m_ 47 46::(ac4_G7++(m_ 53 52::(ac4_G8++[])))))))))))))))))
 (.cond (t_ 58)
 (.seq (r_ [(q_ 2 (.move (.const (.bool true))))])
 (.ret))
 (.skip)))
 (.seq (.seq (r_ [q_ 3 (.move (k_ 0))])
 (.block 0 (.loop ac4_L1)))
 (.seq (.seq (r_ [q_ 4 (.move (k_ 0))])
 (.block 2 (.loop ac4_L2)))
 (.seq (.seq (r_ [q_ 5 (.move (k_ 0))])
 (.block 4 (.loop ac4_L3)))
 (.seq (.seq (r_ [q_ 6 (.move (k_ 0))])
 (.block 6 (.loop ac4_L4)))
 (.seq (r_ [(q_ 2 (.move (.const (.bool false))))])
 (.ret)))))))
theorem text4:FnText Try.prog 4 [] 145 1 ac4 [(2,none)]:=
 ⟨Try.call4,follows,Try.f4,_,Try.func4,rfl,rfl,by decide,by kernel_rfl,by kernel_rfl⟩
def ac5_G1:List AOper:=
 [⟨(some 11),.load 9 true (t_ 1),(some (10,true)),false⟩,
 ⟨(some 12),.build [(.int .i64 0),(.int .i64 0)] [(0,1,(k_ 1))],(some (10,true)),false⟩,
 ⟨(some 13),.call (.func 15) [(t_ 11),(t_ 12)],(some (10,true)),false⟩,
 ⟨(some 14),.bin .eql 3 (t_ 13) (k_ 1),(some (10,true)),false⟩,
 (q_ 15 (.pick (t_ 10) (t_ 14) (.const (.bool false))))]
def ac5_G2:List AOper:=
 [⟨(some 17),.load 9 true (t_ 1),(some (16,true)),false⟩,
 ⟨(some 18),.call (.func 16) [(t_ 17),(k_ 1)],(some (16,true)),false⟩,
 ⟨(some 19),.bin .eql 3 (t_ 18) (k_ 4),(some (16,true)),false⟩,
 (q_ 20 (.pick (t_ 16) (t_ 19) (.const (.bool false))))]
def ac5_G3:List AOper:=
 [⟨(some 22),.load 9 true (t_ 1),(some (21,true)),false⟩,
 ⟨(some 23),.build [(.int .i64 0),(.int .i64 0)] [(0,1,(.const (.int .i64 (-1))))],(some (21,true)),false⟩,
 ⟨(some 24),.call (.func 15) [(t_ 22),(t_ 23)],(some (21,true)),false⟩,
 ⟨(some 25),.bin .eql 3 (t_ 24) (k_ 5),(some (21,true)),false⟩,
 (q_ 26 (.pick (t_ 21) (t_ 25) (.const (.bool false))))]
def ac5_G4:List AOper:=
 [⟨(some 28),.load 9 true (t_ 1),(some (27,true)),false⟩,
 ⟨(some 29),.call (.func 17) [(t_ 28),(k_ 0)],(some (27,true)),false⟩,
 ⟨(some 30),.bin .eql 3 (t_ 29) (k_ 8),(some (27,true)),false⟩,
 (q_ 31 (.pick (t_ 27) (t_ 30) (.const (.bool false))))]
def ac5_G5:List AOper:=
 [⟨(some 33),.load 9 true (t_ 1),(some (32,true)),false⟩,
 ⟨(some 34),.call (.func 17) [(t_ 33),(k_ 1)],(some (32,true)),false⟩,
 ⟨(some 35),.bin .eql 3 (t_ 34) (.const (.int .i64 (-1))),(some (32,true)),false⟩,
 (q_ 36 (.pick (t_ 32) (t_ 35) (.const (.bool false))))]
def ac5_G6:List AOper:=
 [⟨(some 38),.load 9 true (t_ 1),(some (37,true)),false⟩,
 ⟨(some 39),.call (.func 18) [(t_ 38),(k_ 2)],(some (37,true)),false⟩,
 ⟨(some 40),.bin .eql 3 (t_ 39) (k_ 4),(some (37,true)),false⟩,
 (q_ 41 (.pick (t_ 37) (t_ 40) (.const (.bool false))))]
def ac5_G7:List AOper:=
 [⟨(some 43),.load 9 true (t_ 1),(some (42,true)),false⟩,
 ⟨(some 44),.build [(.int .i64 0),(.slice none 0 0),(.slice none 0 0)] [],(some (42,true)),false⟩,
 ⟨(some 45),.call (.func 7) [(t_ 43),(t_ 44)],(some (42,true)),false⟩,
 ⟨(some 46),.bslice false 3 1 false [(k_ 4),(k_ 5)],(some (42,true)),false⟩,
 ⟨(some 47),.call (.func 19) [(t_ 45),(t_ 46)],(some (42,true)),false⟩,
 (q_ 48 (.pick (t_ 42) (t_ 47) (.const (.bool false))))]
def ac5_G8:List AOper:=
 [⟨(some 50),.load 9 true (t_ 1),(some (49,true)),false⟩,
 ⟨(some 51),.build [(.int .i64 0),(.slice none 0 0),(.slice none 0 0)] [],(some (49,true)),false⟩,
 ⟨(some 52),.call (.func 9) [(t_ 50),(t_ 51)],(some (49,true)),false⟩,
 ⟨(some 53),.bslice false 3 1 false [(k_ 2)],(some (49,true)),false⟩,
 ⟨(some 54),.call (.func 19) [(t_ 52),(t_ 53)],(some (49,true)),false⟩,
 (q_ 55 (.pick (t_ 49) (t_ 54) (.const (.bool false))))]
def ac5_G9:List AOper:=
 [⟨(some 57),.load 9 true (t_ 1),(some (56,true)),false⟩,
 ⟨(some 58),.load 3 true (t_ 2),(some (56,true)),false⟩,
 ⟨(some 59),.call (.func 7) [(t_ 57),(t_ 58)],(some (56,true)),false⟩,
 ⟨(some 60),.bslice false 3 1 false [(k_ 4)],(some (56,true)),false⟩,
 ⟨(some 61),.call (.func 19) [(t_ 59),(t_ 60)],(some (56,true)),false⟩,
 (q_ 62 (.pick (t_ 56) (t_ 61) (.const (.bool false))))]
/-- patchbay/patchbaylaw31.works -/
def ac5:AC:=
 .seq (r_ [(q_ 0 (.move (.const (.bool false))))])
 (.seq (r_ [q_ 3 (.call (.func 14) []),
 ⟨(some 1),.alloc true 31 (.agg [(.string ⟨[].toArray⟩),(.slice none 0 0),(.slice none 0 0),(.slice none 0 0),(.slice none 0 0),(.slice none 0 0),(.slice none 0 0),(.slice none 0 0),(.slice none 0 0)].toArray),none,false⟩,
 ⟨none,.store 9 (t_ 1) (t_ 3),none,false⟩])
 (.seq (r_ [(q_ 4 (.build [(.int .i64 0),(.int .i64 0),(.int .i64 0)] [(0,1,(k_ 4)),(1,1,(k_ 1))])),
 q_ 5 (.bslice false 64 3 false [(t_ 4)]),
 (q_ 6 (.build [(.int .i64 0),(.slice none 0 0),(.slice none 0 0)] [(0,1,(.const (.int .i64 (-1)))),(1,1,(t_ 5))])),
 (q_ 2 (.alloc true 35 (.agg [(.int .i64 0),(.slice none 0 0),(.slice none 0 0)].toArray))),
 ⟨none,.store 3 (t_ 2) (t_ 6),none,false⟩])
 (.seq (r_ ((q_ 7 (.load 9 true (t_ 1)))::(q_ 8 (.call (.func 8) [(t_ 7)]))::(q_ 9 (.bin .eql 3 (t_ 8) (k_ 9)))::m_ 10 9::(ac5_G1++(m_ 16 15::(ac5_G2++(m_ 21 20::(ac5_G3++(m_ 27 26::(ac5_G4++(m_ 32 31::(ac5_G5++(m_ 37 36::(ac5_G6++(m_ 42 41::(ac5_G7++(m_ 49 48::(ac5_G8++(m_ 56 55::(ac5_G9++[m_ 0 62])))))))))))))))))))
 (.ret))))
theorem text5:FnText Try.prog 5 [1,2] 63 0 ac5 [(0,none)]:=
 ⟨Try.call5,follows,Try.f5,_,Try.func5,rfl,rfl,by decide,by kernel_rfl,by kernel_rfl⟩
/-- cmp.isNaN[int] -/
def ac48:AC:=
 .seq (r_ [(q_ 2 (.move (.const (.bool false))))])
 (.seq (r_ [m_ 3 0,
 m_ 4 0,
 q_ 5 (.bin .neq 3 (t_ 3) (t_ 4)),
 m_ 2 5])
 (.ret))
theorem text48:FnText Try.prog 48 [] 6 1 ac48 [(2,none)]:=
 ⟨Try.call48,follows,Try.f48,_,Try.func48,rfl,rfl,by decide,by kernel_rfl,by kernel_rfl⟩
/-- cmp.Compare[int] -/
def ac35:AC:=
 .seq (r_ [q_ 4 (.move (k_ 0))])
 (.seq (r_ [m_ 7 0,
 q_ 8 (.call (.func 48) [(t_ 7)]),
 m_ 5 8])
 (.seq (r_ [m_ 9 1,
 q_ 10 (.call (.func 48) [(t_ 9)]),
 m_ 6 10])
 (.seq (.seq (r_ [m_ 11 5])
 (.cond (t_ 11)
 (.seq (.seq (r_ [m_ 12 6])
 (.cond (t_ 12)
 (.seq (r_ [q_ 4 (.move (k_ 0))])
 (.ret))
 (.skip)))
 (.seq (r_ [(q_ 4 (.move (.const (.int .i64 (-1)))))])
 (.ret)))
 (.skip)))
 (.seq (.seq (r_ [m_ 13 6])
 (.cond (t_ 13)
 (.seq (r_ [q_ 4 (.move (k_ 1))])
 (.ret))
 (.skip)))
 (.seq (.seq (r_ [m_ 14 0,
 m_ 15 1,
 q_ 16 (.bin .lss 3 (t_ 14) (t_ 15))])
 (.cond (t_ 16)
 (.seq (r_ [(q_ 4 (.move (.const (.int .i64 (-1)))))])
 (.ret))
 (.skip)))
 (.seq (.seq (r_ [m_ 17 0,
 m_ 18 1,
 q_ 19 (.bin .gtr 3 (t_ 17) (t_ 18))])
 (.cond (t_ 19)
 (.seq (r_ [q_ 4 (.move (k_ 1))])
 (.ret))
 (.skip)))
 (.seq (r_ [q_ 4 (.move (k_ 0))])
 (.ret))))))))
theorem text35:FnText Try.prog 35 [] 20 2 ac35 [(4,none)]:=
 ⟨Try.call35,follows,Try.f35,_,Try.func35,rfl,rfl,by decide,by kernel_rfl,by kernel_rfl⟩
def ac34_L1:AC:=
 .seq (r_ [q_ 9 (.bin .lss 3 (t_ 8) (t_ 7))])
 (.seq (.cond (t_ 9)
 (.skip)
 (.exit 0))
 (.seq (.block 1 (.seq (r_ [q_ 10 (.iaddr 1 (t_ 6) (t_ 8)),
 l_ 11 10,
 m_ 5 11])
 (.seq (r_ [m_ 12 5,
 m_ 13 3,
 q_ 14 (.bin .neq 3 (t_ 12) (t_ 13))])
 (.cond (t_ 14)
 (.seq (r_ [m_ 15 5,
 m_ 2 15])
 (.ret))
 (.skip)))))
 (r_ [q_ 16 (.bin .add 3 (t_ 8) (k_ 1)),
 m_ 8 16])))
/-- cmp.Or[int] -/
def ac34:AC:=
 .seq (r_ [q_ 2 (.move (k_ 0))])
 (.seq (r_ [q_ 3 (.move (k_ 0))])
 (.seq (.seq (r_ [m_ 6 0,
 n_ 7 29 6,
 q_ 8 (.move (k_ 0))])
 (.block 0 (.loop ac34_L1)))
 (.seq (r_ [m_ 17 3,
 m_ 2 17])
 (.ret))))
theorem text34:FnText Try.prog 34 [] 18 1 ac34 [(2,none)]:=
 ⟨Try.call34,follows,Try.f34,_,Try.func34,rfl,rfl,by decide,by kernel_rfl,by kernel_rfl⟩
/-- patchbay/expr.Fields$1 -/
def ac33:AC:=
 .seq (r_ [q_ 2 (.box false 58 (t_ 0)),
 q_ 3 (.box false 58 (t_ 1)),
 q_ 4 (.move (k_ 0))])
 (.seq (.region true [f_ 5 0 2,
 l_ 6 5,
 f_ 7 0 3,
 l_ 8 7,
 q_ 9 (.call (.func 35) [(t_ 6),(t_ 8)]),
 f_ 10 1 2,
 l_ 11 10,
 f_ 12 1 3,
 l_ 13 12,
 q_ 14 (.call (.func 35) [(t_ 11),(t_ 13)]),
 q_ 15 (.bslice false 3 1 false [(t_ 9),(t_ 14)]),
 q_ 16 (.call (.func 34) [(t_ 15)]),
 m_ 4 16])
 (.ret))
theorem text33:FnText Try.prog 33 [] 17 2 ac33 [(4,none)]:=
 ⟨Try.call33,follows,Try.f33,_,Try.func33,rfl,rfl,by decide,by kernel_rfl,by kernel_rfl⟩
/-- (*patchbay/action.access).sorted$1 -/
def ac51:AC:=
 .seq (r_ [q_ 2 (.box false 58 (t_ 0)),
 q_ 3 (.box false 58 (t_ 1)),
 q_ 4 (.move (k_ 0))])
 (.seq (.region true [f_ 5 0 2,
 l_ 6 5,
 f_ 7 0 3,
 l_ 8 7,
 q_ 9 (.call (.func 35) [(t_ 6),(t_ 8)]),
 f_ 10 1 2,
 l_ 11 10,
 f_ 12 1 3,
 l_ 13 12,
 q_ 14 (.call (.func 35) [(t_ 11),(t_ 13)]),
 q_ 15 (.bslice false 3 1 false [(t_ 9),(t_ 14)]),
 q_ 16 (.call (.func 34) [(t_ 15)]),
 m_ 4 16])
 (.ret))
theorem text51:FnText Try.prog 51 [] 17 2 ac51 [(4,none)]:=
 ⟨Try.call51,follows,Try.f51,_,Try.func51,rfl,rfl,by decide,by kernel_rfl,by kernel_rfl⟩
/-- slices.SortFunc[[]patchbay/api.FieldRef,patchbay/api.FieldRef] -/
def ac32:AC:=
 .seq (r_ [m_ 5 0,
 n_ 6 72 5,
 m_ 4 6])
 (r_ [m_ 7 0,
 m_ 8 4,
 m_ 9 4,
 q_ 10 (.conv 3 112 (t_ 9)),
 q_ 11 (.call (.func 47) [(t_ 10)]),
 m_ 12 1,
 q_ 13 (.call (.func 46) [(t_ 7),(k_ 0),(t_ 8),(t_ 11),(t_ 12)])])
theorem text32:FnText Try.prog 32 [] 14 2 ac32 []:=
 ⟨Try.call32,follows,Try.f32,_,Try.func32,rfl,rfl,by decide,by kernel_rfl,by kernel_rfl⟩
def ac36_L2:AC:=
 .seq (.seq (r_ [m_ 29 5,
 m_ 30 4,
 n_ 31 72 30,
 q_ 32 (.bin .lss 3 (t_ 29) (t_ 31))])
 (.cond (t_ 32)
 (.skip)
 (.exit 2)))
 (.seq (.block 3 (.seq (.region true [m_ 35 4,
 m_ 36 5,
 q_ 37 (.iaddr 2 (t_ 35) (t_ 36)),
 q_ 38 (.load 2 true (t_ 37)),
 m_ 39 4,
 m_ 40 5,
 q_ 41 (.bin .sub 3 (t_ 40) (k_ 1)),
 q_ 42 (.iaddr 2 (t_ 39) (t_ 41)),
 q_ 43 (.load 2 true (t_ 42)),
 q_ 44 (.bin .neq 58 (t_ 38) (t_ 43))])
 (.cond (t_ 44)
 (.seq (r_ [m_ 45 0,
 m_ 46 3,
 m_ 47 4,
 m_ 48 5,
 q_ 49 (.iaddr 2 (t_ 47) (t_ 48)),
 q_ 50 (.load 2 true (t_ 49)),
 q_ 51 (.iaddr 2 (t_ 45) (t_ 46)),
 ⟨none,.store 2 (t_ 51) (t_ 50),none,false⟩])
 (r_ [m_ 52 3,
 q_ 53 (.bin .add 3 (t_ 52) (k_ 1)),
 m_ 3 53]))
 (.skip))))
 (r_ [m_ 33 5,
 q_ 34 (.bin .add 3 (t_ 33) (k_ 1)),
 m_ 5 34]))
def ac36_L1:AC:=
 .seq (.seq (r_ [m_ 10 3,
 m_ 11 0,
 n_ 12 72 11,
 q_ 13 (.bin .lss 3 (t_ 10) (t_ 12))])
 (.cond (t_ 13)
 (.skip)
 (.exit 0)))
 (.seq (.block 1 (.seq (.region true [m_ 16 0,
 m_ 17 3,
 q_ 18 (.iaddr 2 (t_ 16) (t_ 17)),
 q_ 19 (.load 2 true (t_ 18)),
 m_ 20 0,
 m_ 21 3,
 q_ 22 (.bin .sub 3 (t_ 21) (k_ 1)),
 q_ 23 (.iaddr 2 (t_ 20) (t_ 22)),
 q_ 24 (.load 2 true (t_ 23)),
 q_ 25 (.bin .eql 58 (t_ 19) (t_ 24))])
 (.cond (t_ 25)
 (.seq (r_ [m_ 26 0,
 m_ 27 3,
 (q_ 28 (.slice 72 2 (t_ 26) (some (t_ 27)) none none)),
 m_ 4 28])
 (.seq (.seq (r_ [q_ 5 (.move (k_ 1))])
 (.block 2 (.loop ac36_L2)))
 (.seq (r_ [m_ 54 0,
 m_ 55 3,
 (q_ 56 (.slice 72 2 (t_ 54) (some (t_ 55)) none none)),
 ⟨none,.clr 2 (.agg [(.int .i64 0),(.int .i64 0)].toArray) (t_ 56),none,false⟩])
 (.seq (r_ [m_ 57 0,
 m_ 58 3,
 (q_ 59 (.slice 72 2 (t_ 57) none (some (t_ 58)) none)),
 m_ 2 59])
 (.ret)))))
 (.skip))))
 (r_ [m_ 14 3,
 q_ 15 (.bin .add 3 (t_ 14) (k_ 1)),
 m_ 3 15]))
/-- slices.Compact[[]patchbay/api.FieldRef,patchbay/api.FieldRef] -/
def ac36:AC:=
 .seq (r_ [q_ 2 (.move z_)])
 (.seq (.seq (r_ [m_ 6 0,
 n_ 7 72 6,
 q_ 8 (.bin .lss 3 (t_ 7) (k_ 2))])
 (.cond (t_ 8)
 (.seq (r_ [m_ 9 0,
 m_ 2 9])
 (.ret))
 (.skip)))
 (.seq (.seq (r_ [q_ 3 (.move (k_ 1))])
 (.block 0 (.loop ac36_L1)))
 (.seq (r_ [m_ 60 0,
 m_ 2 60])
 (.ret))))
theorem text36:FnText Try.prog 36 [] 61 1 ac36 [(2,none)]:=
 ⟨Try.call36,follows,Try.f36,_,Try.func36,rfl,rfl,by decide,by kernel_rfl,by kernel_rfl⟩
def ac21_L1:AC:=
 .seq (r_ [q_ 9 (.bin .lss 3 (t_ 8) (t_ 7))])
 (.seq (.cond (t_ 9)
 (.skip)
 (.exit 0))
 (.seq (.block 1 (.seq (r_ [q_ 10 (.iaddr 3 (t_ 6) (t_ 8)),
 q_ 11 (.load 3 true (t_ 10)),
 (q_ 5 (.alloc true 64 (.agg [(.int .i64 0),(.int .i64 0),(.int .i64 0)].toArray))),
 ⟨none,.store 3 (t_ 5) (t_ 11),none,false⟩])
 (.seq (r_ [f_ 12 0 5,
 l_ 13 12,
 q_ 14 (.bin .eql 3 (t_ 13) (k_ 2))])
 (.cond (t_ 14)
 (r_ [m_ 15 3,
 f_ 16 1 5,
 l_ 17 16,
 f_ 18 2 5,
 l_ 19 18,
 (q_ 20 (.build [(.int .i64 0),(.int .i64 0)] [(0,1,(t_ 17)),(1,1,(t_ 19))])),
 q_ 21 (.bslice false 58 2 false [(t_ 20)]),
 q_ 22 (.append 72 58 2 16 (t_ 15) (t_ 21)),
 m_ 3 22])
 (.skip)))))
 (r_ [q_ 23 (.bin .add 3 (t_ 8) (k_ 1)),
 m_ 8 23])))
/-- patchbay/expr.Fields -/
def ac21:AC:=
 .seq (r_ [q_ 2 (.move z_)])
 (.seq (r_ [q_ 3 (.move z_)])
 (.seq (.seq (r_ [m_ 6 0,
 n_ 7 32 6,
 q_ 8 (.move (k_ 0))])
 (.block 0 (.loop ac21_L1)))
 (.seq (r_ [m_ 24 3,
 q_ 25 (.call (.func 32) [(t_ 24),(.func 33)])])
 (.seq (r_ [m_ 26 3,
 q_ 27 (.call (.func 36) [(t_ 26)]),
 m_ 2 27])
 (.ret)))))
theorem text21:FnText Try.prog 21 [5] 28 1 ac21 [(2,none)]:=
 ⟨Try.call21,follows,Try.f21,_,Try.func21,rfl,rfl,by decide,by kernel_rfl,by kernel_rfl⟩
/-- slices.Sort[[]int,int] -/
def ac37:AC:=
 .seq (r_ [m_ 3 0,
 n_ 4 29 3,
 m_ 2 4])
 (r_ [m_ 5 0,
 m_ 6 2,
 m_ 7 2,
 q_ 8 (.conv 3 112 (t_ 7)),
 q_ 9 (.call (.func 47) [(t_ 8)]),
 q_ 10 (.call (.func 49) [(t_ 5),(k_ 0),(t_ 6),(t_ 9)])])
theorem text37:FnText Try.prog 37 [] 11 1 ac37 []:=
 ⟨Try.call37,follows,Try.f37,_,Try.func37,rfl,rfl,by decide,by kernel_rfl,by kernel_rfl⟩
def ac38_L2:AC:=
 .seq (.seq (r_ [m_ 29 5,
 m_ 30 4,
 n_ 31 29 30,
 q_ 32 (.bin .lss 3 (t_ 29) (t_ 31))])
 (.cond (t_ 32)
 (.skip)
 (.exit 2)))
 (.seq (.block 3 (.seq (.region true [m_ 35 4,
 m_ 36 5,
 q_ 37 (.iaddr 1 (t_ 35) (t_ 36)),
 l_ 38 37,
 m_ 39 4,
 m_ 40 5,
 q_ 41 (.bin .sub 3 (t_ 40) (k_ 1)),
 q_ 42 (.iaddr 1 (t_ 39) (t_ 41)),
 l_ 43 42,
 q_ 44 (.bin .neq 3 (t_ 38) (t_ 43))])
 (.cond (t_ 44)
 (.seq (r_ [m_ 45 0,
 m_ 46 3,
 m_ 47 4,
 m_ 48 5,
 q_ 49 (.iaddr 1 (t_ 47) (t_ 48)),
 l_ 50 49,
 q_ 51 (.iaddr 1 (t_ 45) (t_ 46)),
 ⟨none,.store 1 (t_ 51) (t_ 50),none,false⟩])
 (r_ [m_ 52 3,
 q_ 53 (.bin .add 3 (t_ 52) (k_ 1)),
 m_ 3 53]))
 (.skip))))
 (r_ [m_ 33 5,
 q_ 34 (.bin .add 3 (t_ 33) (k_ 1)),
 m_ 5 34]))
def ac38_L1:AC:=
 .seq (.seq (r_ [m_ 10 3,
 m_ 11 0,
 n_ 12 29 11,
 q_ 13 (.bin .lss 3 (t_ 10) (t_ 12))])
 (.cond (t_ 13)
 (.skip)
 (.exit 0)))
 (.seq (.block 1 (.seq (.region true [m_ 16 0,
 m_ 17 3,
 q_ 18 (.iaddr 1 (t_ 16) (t_ 17)),
 l_ 19 18,
 m_ 20 0,
 m_ 21 3,
 q_ 22 (.bin .sub 3 (t_ 21) (k_ 1)),
 q_ 23 (.iaddr 1 (t_ 20) (t_ 22)),
 l_ 24 23,
 q_ 25 (.bin .eql 3 (t_ 19) (t_ 24))])
 (.cond (t_ 25)
 (.seq (r_ [m_ 26 0,
 m_ 27 3,
 (q_ 28 (.slice 29 1 (t_ 26) (some (t_ 27)) none none)),
 m_ 4 28])
 (.seq (.seq (r_ [q_ 5 (.move (k_ 1))])
 (.block 2 (.loop ac38_L2)))
 (.seq (r_ [m_ 54 0,
 m_ 55 3,
 (q_ 56 (.slice 29 1 (t_ 54) (some (t_ 55)) none none)),
 ⟨none,.clr 1 (.int .i64 0) (t_ 56),none,false⟩])
 (.seq (r_ [m_ 57 0,
 m_ 58 3,
 (q_ 59 (.slice 29 1 (t_ 57) none (some (t_ 58)) none)),
 m_ 2 59])
 (.ret)))))
 (.skip))))
 (r_ [m_ 14 3,
 q_ 15 (.bin .add 3 (t_ 14) (k_ 1)),
 m_ 3 15]))
/-- slices.Compact[[]int,int] -/
def ac38:AC:=
 .seq (r_ [q_ 2 (.move z_)])
 (.seq (.seq (r_ [m_ 6 0,
 n_ 7 29 6,
 q_ 8 (.bin .lss 3 (t_ 7) (k_ 2))])
 (.cond (t_ 8)
 (.seq (r_ [m_ 9 0,
 m_ 2 9])
 (.ret))
 (.skip)))
 (.seq (.seq (r_ [q_ 3 (.move (k_ 1))])
 (.block 0 (.loop ac38_L1)))
 (.seq (r_ [m_ 60 0,
 m_ 2 60])
 (.ret))))
theorem text38:FnText Try.prog 38 [] 61 1 ac38 [(2,none)]:=
 ⟨Try.call38,follows,Try.f38,_,Try.func38,rfl,rfl,by decide,by kernel_rfl,by kernel_rfl⟩
def ac22_L1:AC:=
 .seq (r_ [q_ 9 (.bin .lss 3 (t_ 8) (t_ 7))])
 (.seq (.cond (t_ 9)
 (.skip)
 (.exit 0))
 (.seq (.block 1 (.seq (r_ [q_ 10 (.iaddr 3 (t_ 6) (t_ 8)),
 q_ 11 (.load 3 true (t_ 10)),
 (q_ 5 (.alloc true 64 (.agg [(.int .i64 0),(.int .i64 0),(.int .i64 0)].toArray))),
 ⟨none,.store 3 (t_ 5) (t_ 11),none,false⟩])
 (.seq (r_ [f_ 12 0 5,
 l_ 13 12,
 q_ 14 (.bin .eql 3 (t_ 13) (k_ 4))])
 (.cond (t_ 14)
 (r_ [m_ 15 3,
 f_ 16 1 5,
 l_ 17 16,
 q_ 18 (.bslice false 3 1 false [(t_ 17)]),
 q_ 19 (.append 29 3 1 8 (t_ 15) (t_ 18)),
 m_ 3 19])
 (.skip)))))
 (r_ [q_ 20 (.bin .add 3 (t_ 8) (k_ 1)),
 m_ 8 20])))
/-- patchbay/expr.Headers -/
def ac22:AC:=
 .seq (r_ [q_ 2 (.move z_)])
 (.seq (r_ [q_ 3 (.move z_)])
 (.seq (.seq (r_ [m_ 6 0,
 n_ 7 32 6,
 q_ 8 (.move (k_ 0))])
 (.block 0 (.loop ac22_L1)))
 (.seq (r_ [m_ 21 3,
 q_ 22 (.call (.func 37) [(t_ 21)])])
 (.seq (r_ [m_ 23 3,
 q_ 24 (.call (.func 38) [(t_ 23)]),
 m_ 2 24])
 (.ret)))))
theorem text22:FnText Try.prog 22 [5] 25 1 ac22 [(2,none)]:=
 ⟨Try.call22,follows,Try.f22,_,Try.func22,rfl,rfl,by decide,by kernel_rfl,by kernel_rfl⟩
/-- (*patchbay/access.collector).add$1 -/
def ac31:AC:=
 .seq (r_ [m_ 3 0,
 q_ 4 (.bin .geq 3 (t_ 3) (k_ 0))])
 (.cond (t_ 4)
 (.region true [⟨(some 5),.load 1 false (t_ 1),none,true⟩,
 l_ 6 1,
 q_ 7 (.nilCheck (t_ 6)),
 f_ 8 9 7,
 l_ 9 8,
 m_ 10 0,
 q_ 11 (.bslice false 3 1 false [(t_ 10)]),
 q_ 12 (.append 29 3 1 8 (t_ 9) (t_ 11)),
 q_ 13 (.nilCheck (t_ 5)),
 f_ 14 9 13,
 ⟨none,.store 1 (t_ 14) (t_ 12),none,false⟩])
 (.skip))
theorem text31:FnText Try.prog 31 [] 15 2 ac31 []:=
 ⟨Try.call31,follows,Try.f31,_,Try.func31,rfl,rfl,by decide,by kernel_rfl,by kernel_rfl⟩
def ac42_L1:AC:=
 .seq (r_ [q_ 20 (.bin .lss 3 (t_ 19) (t_ 18))])
 (.seq (.cond (t_ 20)
 (.skip)
 (.exit 0))
 (.seq (.block 1 (.seq (r_ [q_ 21 (.iaddr 2 (t_ 17) (t_ 19)),
 q_ 22 (.load 2 true (t_ 21)),
 ⟨(some 5),.alloc true 45 (.agg [(.string ⟨[].toArray⟩),(.slice none 0 0)].toArray),none,false⟩,
 ⟨none,.store 2 (t_ 5) (t_ 22),none,false⟩])
 (r_ [q_ 23 (.iaddrA 4 1 false (t_ 3) (k_ 0)),
 l_ 24 23,
 f_ 25 1 5,
 l_ 26 25,
 n_ 27 23 26,
 q_ 28 (.bin .add 3 (t_ 24) (t_ 27)),
 q_ 29 (.iaddrA 4 1 false (t_ 3) (k_ 0)),
 ⟨none,.store 1 (t_ 29) (t_ 28),none,false⟩])))
 (r_ [q_ 30 (.bin .add 3 (t_ 19) (k_ 1)),
 m_ 19 30])))
/-- patchbay/access.counts -/
def ac42:AC:=
 .seq (r_ [q_ 1 (.box false 31 (t_ 0)),
 (q_ 2 (.alloc true 104 (.agg [(.int .i64 0),(.int .i64 0),(.int .i64 0),(.int .i64 0)].toArray)))])
 (.seq (r_ [f_ 6 1 1,
 l_ 7 6,
 n_ 8 22 7,
 f_ 9 2 1,
 l_ 10 9,
 n_ 11 23 10,
 f_ 12 3 1,
 l_ 13 12,
 n_ 14 24 13,
 (q_ 15 (.build [(.int .i64 0),(.int .i64 0),(.int .i64 0),(.int .i64 0)] [(1,1,(t_ 8)),(2,1,(t_ 11)),(3,1,(t_ 14))])),
 (q_ 3 (.alloc true 104 (.agg [(.int .i64 0),(.int .i64 0),(.int .i64 0),(.int .i64 0)].toArray))),
 ⟨none,.store 4 (t_ 3) (t_ 15),none,false⟩])
 (.seq (.seq (r_ [f_ 16 1 1,
 l_ 17 16,
 n_ 18 22 17,
 q_ 19 (.move (k_ 0))])
 (.block 0 (.loop ac42_L1)))
 (.seq (r_ [q_ 31 (.load 4 true (t_ 3)),
 ⟨none,.store 4 (t_ 2) (t_ 31),none,false⟩])
 (.ret))))
theorem text42:FnText Try.prog 42 [2,3,5] 32 1 ac42 [(2,some (4,true))]:=
 ⟨Try.call42,follows,Try.f42,_,Try.func42,rfl,rfl,by decide,by kernel_rfl,by kernel_rfl⟩
def ac26_L1:AC:=
 .seq (r_ [q_ 11 (.bin .lss 3 (t_ 10) (k_ 4))])
 (.seq (.cond (t_ 11)
 (.skip)
 (.exit 0))
 (.seq (.block 1 (.seq (r_ [m_ 12 10,
 q_ 13 (.indexA 4 1 false (t_ 9) (t_ 10)),
 m_ 6 12,
 m_ 7 13])
 (.seq (r_ [m_ 14 6,
 m_ 15 1,
 q_ 16 (.bin .lss 3 (t_ 14) (t_ 15))])
 (.cond (t_ 16)
 (r_ [m_ 17 5,
 m_ 18 7,
 q_ 19 (.bin .add 3 (t_ 17) (t_ 18)),
 m_ 5 19])
 (.skip)))))
 (r_ [q_ 20 (.bin .add 3 (t_ 10) (k_ 1)),
 m_ 10 20])))
/-- patchbay/access.first -/
def ac26:AC:=
 .seq (r_ [q_ 2 (.box false 31 (t_ 0)),
 q_ 4 (.move (k_ 0))])
 (.seq (r_ [q_ 5 (.move (k_ 0))])
 (.seq (.seq (r_ [q_ 8 (.load 9 true (t_ 2)),
 q_ 9 (.call (.func 42) [(t_ 8)]),
 q_ 10 (.move (k_ 0))])
 (.block 0 (.loop ac26_L1)))
 (.seq (r_ [m_ 21 5,
 m_ 4 21])
 (.ret))))
theorem text26:FnText Try.prog 26 [] 22 2 ac26 [(4,none)]:=
 ⟨Try.call26,follows,Try.f26,_,Try.func26,rfl,rfl,by decide,by kernel_rfl,by kernel_rfl⟩
def ac29_G1:List AOper:=
 [⟨(some 10),.move (t_ 2),(some (9,false)),false⟩,
 ⟨(some 11),.load 9 true (t_ 3),(some (9,false)),false⟩,
 ⟨(some 12),.call (.func 42) [(t_ 11)],(some (9,false)),false⟩,
 ⟨(some 13),.move (t_ 1),(some (9,false)),false⟩,
 ⟨(some 14),.indexA 4 1 false (t_ 12) (t_ 13),(some (9,false)),false⟩,
 ⟨(some 15),.bin .geq 3 (t_ 10) (t_ 14),(some (9,false)),false⟩,
 (q_ 16 (.pick (t_ 9) (.const (.bool true)) (t_ 15)))]
/-- patchbay/access.cell -/
def ac29:AC:=
 .seq (r_ [q_ 3 (.box false 31 (t_ 0)),
 q_ 6 (.move (k_ 0))])
 (.seq (.seq (r_ (m_ 7 2::(q_ 8 (.bin .lss 3 (t_ 7) (k_ 0)))::m_ 9 8::(ac29_G1++[])))
 (.cond (t_ 16)
 (.seq (r_ [(q_ 6 (.move (.const (.int .i64 (-1)))))])
 (.ret))
 (.skip)))
 (.seq (r_ [q_ 17 (.load 9 true (t_ 3)),
 m_ 18 1,
 q_ 19 (.call (.func 26) [(t_ 17),(t_ 18)]),
 m_ 20 2,
 q_ 21 (.bin .add 3 (t_ 19) (t_ 20)),
 m_ 6 21])
 (.ret)))
theorem text29:FnText Try.prog 29 [] 22 3 ac29 [(6,none)]:=
 ⟨Try.call29,follows,Try.f29,_,Try.func29,rfl,rfl,by decide,by kernel_rfl,by kernel_rfl⟩
def ac15_G1:List AOper:=
 [⟨(some 19),.faddr 0 1 false (t_ 3),(some (18,false)),false⟩,
 ⟨(some 20),.load 1 false (t_ 19),(some (18,false)),false⟩,
 ⟨(some 21),.faddr 1 1 false (t_ 2),(some (18,false)),false⟩,
 ⟨(some 22),.load 1 false (t_ 21),(some (18,false)),false⟩,
 ⟨(some 23),.bi .len [22].toArray 3 [(t_ 22)],(some (18,false)),false⟩,
 ⟨(some 24),.bin .geq 3 (t_ 20) (t_ 23),(some (18,false)),false⟩,
 (q_ 25 (.pick (t_ 18) (.const (.bool true)) (t_ 24)))]
def ac15_G2:List AOper:=
 [⟨(some 27),.faddr 1 1 false (t_ 3),(some (26,false)),false⟩,
 ⟨(some 28),.load 1 false (t_ 27),(some (26,false)),false⟩,
 ⟨(some 29),.bin .lss 3 (t_ 28) (k_ 0),(some (26,false)),false⟩,
 (q_ 30 (.pick (t_ 26) (.const (.bool true)) (t_ 29)))]
def ac15_G3:List AOper:=
 [⟨(some 32),.faddr 1 1 false (t_ 3),(some (31,false)),false⟩,
 ⟨(some 33),.load 1 false (t_ 32),(some (31,false)),false⟩,
 ⟨(some 34),.faddr 1 1 false (t_ 2),(some (31,false)),false⟩,
 ⟨(some 35),.load 1 false (t_ 34),(some (31,false)),false⟩,
 ⟨(some 36),.faddr 0 1 false (t_ 3),(some (31,false)),false⟩,
 ⟨(some 37),.load 1 false (t_ 36),(some (31,false)),false⟩,
 ⟨(some 38),.iaddr 2 (t_ 35) (t_ 37),(some (31,false)),false⟩,
 ⟨(some 39),.faddr 1 1 false (t_ 38),(some (31,false)),false⟩,
 ⟨(some 40),.load 1 false (t_ 39),(some (31,false)),false⟩,
 ⟨(some 41),.bi .len [23].toArray 3 [(t_ 40)],(some (31,false)),false⟩,
 ⟨(some 42),.bin .geq 3 (t_ 33) (t_ 41),(some (31,false)),false⟩,
 (q_ 43 (.pick (t_ 31) (.const (.bool true)) (t_ 42)))]
def ac15_L1:AC:=
 .seq (r_ [q_ 53 (.bin .lss 3 (t_ 52) (t_ 51))])
 (.seq (.cond (t_ 53)
 (.skip)
 (.exit 0))
 (.seq (.block 1 (.seq (r_ [q_ 54 (.iaddr 2 (t_ 50) (t_ 52)),
 q_ 55 (.load 2 true (t_ 54)),
 ⟨(some 7),.alloc true 45 (.agg [(.string ⟨[].toArray⟩),(.slice none 0 0)].toArray),none,false⟩,
 ⟨none,.store 2 (t_ 7) (t_ 55),none,false⟩])
 (r_ [m_ 56 5,
 f_ 57 1 7,
 l_ 58 57,
 n_ 59 23 58,
 q_ 60 (.bin .add 3 (t_ 56) (t_ 59)),
 m_ 5 60])))
 (r_ [q_ 61 (.bin .add 3 (t_ 52) (k_ 1)),
 m_ 52 61])))
/-- patchbay/access.FieldCell -/
def ac15:AC:=
 .seq (r_ [q_ 2 (.box false 31 (t_ 0)),
 q_ 3 (.box false 58 (t_ 1)),
 q_ 4 (.move (k_ 0))])
 (.seq (.seq (r_ [f_ 8 0 3,
 l_ 9 8,
 (q_ 10 (.bin .eql 3 (t_ 9) (.const (.int .i64 (-1)))))])
 (.cond (t_ 10)
 (.seq (r_ [q_ 11 (.load 9 true (t_ 2)),
 f_ 12 1 3,
 l_ 13 12,
 q_ 14 (.call (.func 29) [(t_ 11),(k_ 2),(t_ 13)]),
 m_ 4 14])
 (.ret))
 (.skip)))
 (.seq (.seq (.region true (f_ 15 0 3::l_ 16 15::(q_ 17 (.bin .lss 3 (t_ 16) (k_ 0)))::m_ 18 17::(ac15_G1++(m_ 26 25::(ac15_G2++(m_ 31 30::(ac15_G3++[])))))))
 (.cond (t_ 43)
 (.seq (r_ [(q_ 4 (.move (.const (.int .i64 (-1)))))])
 (.ret))
 (.skip)))
 (.seq (r_ [f_ 44 1 3,
 l_ 45 44,
 m_ 5 45])
 (.seq (.seq (r_ [f_ 46 1 2,
 l_ 47 46,
 f_ 48 0 3,
 l_ 49 48,
 (q_ 50 (.slice 22 2 (t_ 47) none (some (t_ 49)) none)),
 n_ 51 22 50,
 q_ 52 (.move (k_ 0))])
 (.block 0 (.loop ac15_L1)))
 (.seq (r_ [m_ 62 5,
 m_ 4 62])
 (.ret))))))
theorem text15:FnText Try.prog 15 [7] 63 2 ac15 [(4,none)]:=
 ⟨Try.call15,follows,Try.f15,_,Try.func15,rfl,rfl,by decide,by kernel_rfl,by kernel_rfl⟩
/-- patchbay/access.ValidCell -/
def ac16:AC:=
 .seq (r_ [q_ 2 (.box false 31 (t_ 0)),
 q_ 4 (.move (k_ 0))])
 (.seq (r_ [q_ 5 (.load 9 true (t_ 2)),
 m_ 6 1,
 q_ 7 (.call (.func 29) [(t_ 5),(k_ 1),(t_ 6)]),
 m_ 4 7])
 (.ret))
theorem text16:FnText Try.prog 16 [] 8 2 ac16 [(4,none)]:=
 ⟨Try.call16,follows,Try.f16,_,Try.func16,rfl,rfl,by decide,by kernel_rfl,by kernel_rfl⟩
/-- patchbay/access.RegisterCell -/
def ac17:AC:=
 .seq (r_ [q_ 2 (.box false 31 (t_ 0)),
 q_ 4 (.move (k_ 0))])
 (.seq (r_ [q_ 5 (.load 9 true (t_ 2)),
 m_ 6 1,
 q_ 7 (.call (.func 29) [(t_ 5),(k_ 3),(t_ 6)]),
 m_ 4 7])
 (.ret))
theorem text17:FnText Try.prog 17 [] 8 2 ac17 [(4,none)]:=
 ⟨Try.call17,follows,Try.f17,_,Try.func17,rfl,rfl,by decide,by kernel_rfl,by kernel_rfl⟩
def ac20_L1:AC:=
 .seq (r_ [q_ 19 (.bin .lss 3 (t_ 18) (t_ 17))])
 (.seq (.cond (t_ 19)
 (.skip)
 (.exit 0))
 (.seq (.block 1 (.seq (r_ [q_ 20 (.iaddr 2 (t_ 16) (t_ 18)),
 q_ 21 (.load 2 true (t_ 20)),
 (q_ 10 (.alloc true 58 (.agg [(.int .i64 0),(.int .i64 0)].toArray))),
 ⟨none,.store 2 (t_ 10) (t_ 21),none,false⟩])
 (.regionT [m_ 22 8,
 l_ 23 4,
 q_ 24 (.nilCheck (t_ 23)),
 q_ 25 (.faddr 0 9 true (t_ 24)),
 q_ 26 (.load 9 true (t_ 25)),
 q_ 27 (.load 2 true (t_ 10)),
 q_ 28 (.call (.func 15) [(t_ 26),(t_ 27)])] (q_ 29 (.call (t_ 22) [(t_ 28)])))))
 (r_ [q_ 30 (.bin .add 3 (t_ 18) (k_ 1)),
 m_ 18 30])))
def ac20_L2:AC:=
 .seq (r_ [q_ 34 (.bin .lss 3 (t_ 33) (t_ 32))])
 (.seq (.cond (t_ 34)
 (.skip)
 (.exit 2))
 (.seq (.block 3 (.seq (r_ [q_ 35 (.iaddr 1 (t_ 31) (t_ 33)),
 l_ 36 35,
 m_ 12 36])
 (r_ [m_ 37 8,
 l_ 38 4,
 q_ 39 (.nilCheck (t_ 38)),
 q_ 40 (.faddr 0 9 true (t_ 39)),
 q_ 41 (.load 9 true (t_ 40)),
 m_ 42 12,
 q_ 43 (.call (.func 16) [(t_ 41),(t_ 42)]),
 q_ 44 (.call (t_ 37) [(t_ 43)])])))
 (r_ [q_ 45 (.bin .add 3 (t_ 33) (k_ 1)),
 m_ 33 45])))
def ac20_L3:AC:=
 .seq (r_ [q_ 49 (.bin .lss 3 (t_ 48) (t_ 47))])
 (.seq (.cond (t_ 49)
 (.skip)
 (.exit 4))
 (.seq (.block 5 (.seq (r_ [q_ 50 (.iaddr 1 (t_ 46) (t_ 48)),
 l_ 51 50,
 m_ 14 51])
 (r_ [m_ 52 8,
 l_ 53 4,
 q_ 54 (.nilCheck (t_ 53)),
 q_ 55 (.faddr 0 9 true (t_ 54)),
 q_ 56 (.load 9 true (t_ 55)),
 m_ 57 14,
 q_ 58 (.call (.func 17) [(t_ 56),(t_ 57)]),
 q_ 59 (.call (t_ 52) [(t_ 58)])])))
 (r_ [q_ 60 (.bin .add 3 (t_ 48) (k_ 1)),
 m_ 48 60])))
/-- (*patchbay/access.collector).add -/
def ac20:AC:=
 .seq (r_ [q_ 4 (.box false 68 (t_ 0))])
 (.seq (r_ [q_ 15 (.mkFunc (.func 31) [] [(t_ 4)]),
 m_ 8 15])
 (.seq (.seq (r_ [m_ 16 1,
 n_ 17 72 16,
 q_ 18 (.move (k_ 0))])
 (.block 0 (.loop ac20_L1)))
 (.seq (.seq (r_ [m_ 31 2,
 n_ 32 29 31,
 q_ 33 (.move (k_ 0))])
 (.block 2 (.loop ac20_L2)))
 (.seq (r_ [m_ 46 3,
 n_ 47 29 46,
 q_ 48 (.move (k_ 0))])
 (.block 4 (.loop ac20_L3))))))
theorem text20:FnText Try.prog 20 [10] 61 4 ac20 []:=
 ⟨Try.call20,follows,Try.f20,_,Try.func20,rfl,rfl,by decide,by kernel_rfl,by kernel_rfl⟩
/-- (*patchbay/access.collector).sorted -/
def ac23:AC:=
 .seq (r_ [q_ 2 (.move z_)])
 (.seq (r_ [m_ 3 0,
 q_ 4 (.nilCheck (t_ 3)),
 f_ 5 9 4,
 l_ 6 5,
 q_ 7 (.call (.func 37) [(t_ 6)])])
 (.seq (r_ [m_ 8 0,
 q_ 9 (.nilCheck (t_ 8)),
 f_ 10 9 9,
 l_ 11 10,
 q_ 12 (.call (.func 38) [(t_ 11)]),
 m_ 2 12])
 (.ret)))
theorem text23:FnText Try.prog 23 [] 13 1 ac23 [(2,none)]:=
 ⟨Try.call23,follows,Try.f23,_,Try.func23,rfl,rfl,by decide,by kernel_rfl,by kernel_rfl⟩
def ac24_G1:List AOper:=
 [⟨(some 10),.faddr 0 1 false (t_ 3),(some (9,false)),false⟩,
 ⟨(some 11),.load 1 false (t_ 10),(some (9,false)),false⟩,
 ⟨(some 12),.faddr 5 1 false (t_ 2),(some (9,false)),false⟩,
 ⟨(some 13),.load 1 false (t_ 12),(some (9,false)),false⟩,
 ⟨(some 14),.bi .len [26].toArray 3 [(t_ 13)],(some (9,false)),false⟩,
 ⟨(some 15),.bin .geq 3 (t_ 11) (t_ 14),(some (9,false)),false⟩,
 (q_ 16 (.pick (t_ 9) (.const (.bool true)) (t_ 15)))]
/-- patchbay/access.declared -/
def ac24:AC:=
 .seq (r_ [q_ 2 (.box false 31 (t_ 0)),
 q_ 3 (.box false 35 (t_ 1)),
 ⟨(some 4),.alloc true 55 (.agg [(.string ⟨[].toArray⟩),(.slice none 0 0),(.slice none 0 0),(.int .i64 0),(.slice none 0 0),(.int .i64 0)].toArray),none,false⟩,
 (q_ 5 (.move (.const (.bool false))))])
 (.seq (.seq (r_ (f_ 6 0 3::l_ 7 6::(q_ 8 (.bin .lss 3 (t_ 7) (k_ 0)))::m_ 9 8::(ac24_G1++[])))
 (.cond (t_ 16)
 (.seq (r_ [⟨(some 17),.build [(.string ⟨[].toArray⟩),(.slice none 0 0),(.slice none 0 0),(.int .i64 0),(.slice none 0 0),(.int .i64 0)] [],none,false⟩,
 ⟨none,.store 6 (t_ 4) (t_ 17),none,false⟩,
 (q_ 5 (.move (.const (.bool false))))])
 (.ret))
 (.skip)))
 (.seq (r_ [f_ 18 5 2,
 l_ 19 18,
 f_ 20 0 3,
 l_ 21 20,
 q_ 22 (.iaddr 6 (t_ 19) (t_ 21)),
 q_ 23 (.load 6 true (t_ 22)),
 ⟨none,.store 6 (t_ 4) (t_ 23),none,false⟩,
 (q_ 5 (.move (.const (.bool true))))])
 (.ret)))
theorem text24:FnText Try.prog 24 [4] 24 2 ac24 [(4,some (6,true)),(5,none)]:=
 ⟨Try.call24,follows,Try.f24,_,Try.func24,rfl,rfl,by decide,by kernel_rfl,by kernel_rfl⟩
def ac91_G1:List AOper:=
 [⟨(some 6),.move (t_ 0),(some (5,true)),false⟩,
 ⟨(some 7),.bin .leq 5 (t_ 6) (.const (.int .u8 122)),(some (5,true)),false⟩,
 (q_ 8 (.pick (t_ 5) (t_ 7) (.const (.bool false))))]
def ac91_G3:List AOper:=
 [⟨(some 13),.move (t_ 0),(some (12,true)),false⟩,
 ⟨(some 14),.bin .leq 5 (t_ 13) (.const (.int .u8 90)),(some (12,true)),false⟩,
 ⟨(some 15),.pick (t_ 12) (t_ 14) (.const (.bool false)),(some (9,false)),false⟩]
def ac91_G2:List AOper:=
 (⟨(some 10),.move (t_ 0),(some (9,false)),false⟩::⟨(some 11),.bin .geq 5 (t_ 10) (.const (.int .u8 65)),(some (9,false)),false⟩::⟨(some 12),.move (t_ 11),(some (9,false)),false⟩::(ac91_G3++[(q_ 16 (.pick (t_ 9) (.const (.bool true)) (t_ 15)))]))
/-- patchbay/lexer.isLetter -/
def ac91:AC:=
 .seq (r_ [(q_ 2 (.move (.const (.bool false))))])
 (.seq (r_ (m_ 3 0::(q_ 4 (.bin .geq 5 (t_ 3) (.const (.int .u8 97))))::m_ 5 4::(ac91_G1++(m_ 9 8::(ac91_G2++[m_ 2 16])))))
 (.ret))
theorem text91:FnText Try.prog 91 [] 17 1 ac91 [(2,none)]:=
 ⟨Try.call91,follows,Try.f91,_,Try.func91,rfl,rfl,by decide,by kernel_rfl,by kernel_rfl⟩
def ac92_G1:List AOper:=
 [⟨(some 11),.move (t_ 1),(some (10,true)),false⟩,
 ⟨(some 12),.move (t_ 0),(some (10,true)),false⟩,
 ⟨(some 13),.move (t_ 5),(some (10,true)),false⟩,
 ⟨(some 14),.indexS 9 (t_ 12) (t_ 13),(some (10,true)),false⟩,
 ⟨(some 15),.call (t_ 11) [(t_ 14)],(some (10,true)),false⟩,
 (q_ 16 (.pick (t_ 10) (t_ 15) (.const (.bool false))))]
def ac92_L1:AC:=
 .seq (.seq (r_ (m_ 6 5::m_ 7 0::n_ 8 9 7::(q_ 9 (.bin .lss 3 (t_ 6) (t_ 8)))::m_ 10 9::(ac92_G1++[])))
 (.cond (t_ 16)
 (.skip)
 (.exit 0)))
 (.block 1 (r_ [m_ 17 5,
 q_ 18 (.bin .add 3 (t_ 17) (k_ 1)),
 m_ 5 18]))
/-- patchbay/lexer.extent -/
def ac92:AC:=
 .seq (r_ [q_ 4 (.move (k_ 0))])
 (.seq (r_ [q_ 5 (.move (k_ 0))])
 (.seq (.block 0 (.loop ac92_L1))
 (.seq (r_ [m_ 19 5,
 m_ 4 19])
 (.ret))))
theorem text92:FnText Try.prog 92 [] 20 2 ac92 [(4,none)]:=
 ⟨Try.call92,follows,Try.f92,_,Try.func92,rfl,rfl,by decide,by kernel_rfl,by kernel_rfl⟩
def ac94_G1:List AOper:=
 [⟨(some 6),.move (t_ 0),(some (5,true)),false⟩,
 ⟨(some 7),.bin .leq 5 (t_ 6) (.const (.int .u8 57)),(some (5,true)),false⟩,
 (q_ 8 (.pick (t_ 5) (t_ 7) (.const (.bool false))))]
/-- patchbay/lexer.isDigit -/
def ac94:AC:=
 .seq (r_ [(q_ 2 (.move (.const (.bool false))))])
 (.seq (r_ (m_ 3 0::(q_ 4 (.bin .geq 5 (t_ 3) (.const (.int .u8 48))))::m_ 5 4::(ac94_G1++[m_ 2 8])))
 (.ret))
theorem text94:FnText Try.prog 94 [] 9 1 ac94 [(2,none)]:=
 ⟨Try.call94,follows,Try.f94,_,Try.func94,rfl,rfl,by decide,by kernel_rfl,by kernel_rfl⟩
def ac93_G1:List AOper:=
 [⟨(some 6),.move (t_ 0),(some (5,false)),false⟩,
 ⟨(some 7),.call (.func 94) [(t_ 6)],(some (5,false)),false⟩,
 (q_ 8 (.pick (t_ 5) (.const (.bool true)) (t_ 7)))]
def ac93_G2:List AOper:=
 [⟨(some 10),.move (t_ 0),(some (9,false)),false⟩,
 ⟨(some 11),.bin .eql 5 (t_ 10) (.const (.int .u8 95)),(some (9,false)),false⟩,
 (q_ 12 (.pick (t_ 9) (.const (.bool true)) (t_ 11)))]
/-- patchbay/lexer.IsIdentifier$1 -/
def ac93:AC:=
 .seq (r_ [(q_ 2 (.move (.const (.bool false))))])
 (.seq (r_ (m_ 3 0::(q_ 4 (.call (.func 91) [(t_ 3)]))::m_ 5 4::(ac93_G1++(m_ 9 8::(ac93_G2++[m_ 2 12])))))
 (.ret))
theorem text93:FnText Try.prog 93 [] 13 1 ac93 [(2,none)]:=
 ⟨Try.call93,follows,Try.f93,_,Try.func93,rfl,rfl,by decide,by kernel_rfl,by kernel_rfl⟩
def ac83_G1:List AOper:=
 [⟨(some 7),.move (t_ 0),(some (6,false)),false⟩,
 ⟨(some 8),.bi .len [9].toArray 3 [(t_ 7)],(some (6,false)),false⟩,
 ⟨(some 9),.bin .gtr 3 (t_ 8) (k_ 16),(some (6,false)),false⟩,
 (q_ 10 (.pick (t_ 6) (.const (.bool true)) (t_ 9)))]
def ac83_G2:List AOper:=
 [⟨(some 12),.move (t_ 0),(some (11,false)),false⟩,
 ⟨(some 13),.indexS 9 (t_ 12) (k_ 0),(some (11,false)),false⟩,
 ⟨(some 14),.call (.func 91) [(t_ 13)],(some (11,false)),false⟩,
 ⟨(some 15),.un .not (t_ 14),(some (11,false)),false⟩,
 (q_ 16 (.pick (t_ 11) (.const (.bool true)) (t_ 15)))]
/-- patchbay/lexer.IsIdentifier -/
def ac83:AC:=
 .seq (r_ [(q_ 2 (.move (.const (.bool false))))])
 (.seq (.seq (r_ (m_ 3 0::n_ 4 9 3::(q_ 5 (.bin .eql 3 (t_ 4) (k_ 0)))::m_ 6 5::(ac83_G1++(m_ 11 10::(ac83_G2++[])))))
 (.cond (t_ 16)
 (.seq (r_ [(q_ 2 (.move (.const (.bool false))))])
 (.ret))
 (.skip)))
 (.seq (r_ [m_ 17 0,
 q_ 18 (.call (.func 92) [(t_ 17),(.func 93)]),
 m_ 19 0,
 n_ 20 9 19,
 q_ 21 (.bin .eql 3 (t_ 18) (t_ 20)),
 m_ 2 21])
 (.ret)))
theorem text83:FnText Try.prog 83 [] 22 1 ac83 [(2,none)]:=
 ⟨Try.call83,follows,Try.f83,_,Try.func83,rfl,rfl,by decide,by kernel_rfl,by kernel_rfl⟩
/-- patchbay/action.declaration$1 -/
def ac85:AC:=
 .seq (r_ [q_ 2 (.box false 85 (t_ 0)),
 (q_ 3 (.move (.const (.bool false))))])
 (.seq (r_ [f_ 4 0 2,
 l_ 5 4,
 f_ 6 0 1,
 l_ 7 6,
 q_ 8 (.bin .eql 9 (t_ 5) (t_ 7)),
 m_ 3 8])
 (.ret))
theorem text85:FnText Try.prog 85 [] 9 2 ac85 [(3,none)]:=
 ⟨Try.call85,follows,Try.f85,_,Try.func85,rfl,rfl,by decide,by kernel_rfl,by kernel_rfl⟩
def ac95_L1:AC:=
 .seq (r_ [q_ 9 (.bin .lss 3 (t_ 8) (t_ 7))])
 (.seq (.cond (t_ 9)
 (.skip)
 (.exit 0))
 (.seq (.block 1 (.seq (r_ [m_ 10 8,
 m_ 5 10])
 (.seq (r_ [m_ 11 1,
 m_ 12 0,
 m_ 13 5,
 q_ 14 (.iaddr 2 (t_ 12) (t_ 13)),
 q_ 15 (.load 2 true (t_ 14)),
 q_ 16 (.call (t_ 11) [(t_ 15)])])
 (.cond (t_ 16)
 (.seq (r_ [m_ 17 5,
 m_ 4 17])
 (.ret))
 (.skip)))))
 (r_ [q_ 18 (.bin .add 3 (t_ 8) (k_ 1)),
 m_ 8 18])))
/-- slices.IndexFunc[[]patchbay/api.Field,patchbay/api.Field] -/
def ac95:AC:=
 .seq (r_ [q_ 4 (.move (k_ 0))])
 (.seq (.seq (r_ [m_ 6 0,
 n_ 7 23 6,
 q_ 8 (.move (k_ 0))])
 (.block 0 (.loop ac95_L1)))
 (.seq (r_ [(q_ 4 (.move (.const (.int .i64 (-1)))))])
 (.ret)))
theorem text95:FnText Try.prog 95 [] 19 2 ac95 [(4,none)]:=
 ⟨Try.call95,follows,Try.f95,_,Try.func95,rfl,rfl,by decide,by kernel_rfl,by kernel_rfl⟩
/-- slices.ContainsFunc[[]patchbay/api.Field,patchbay/api.Field] -/
def ac84:AC:=
 .seq (r_ [(q_ 4 (.move (.const (.bool false))))])
 (.seq (r_ [m_ 5 0,
 m_ 6 1,
 q_ 7 (.call (.func 95) [(t_ 5),(t_ 6)]),
 q_ 8 (.bin .geq 3 (t_ 7) (k_ 0)),
 m_ 4 8])
 (.ret))
theorem text84:FnText Try.prog 84 [] 9 2 ac84 [(4,none)]:=
 ⟨Try.call84,follows,Try.f84,_,Try.func84,rfl,rfl,by decide,by kernel_rfl,by kernel_rfl⟩
def ac73_G1:List AOper:=
 [⟨(some 16),.faddr 2 1 false (t_ 1),(some (15,false)),false⟩,
 ⟨(some 17),.load 1 false (t_ 16),(some (15,false)),false⟩,
 ⟨(some 18),.bi .len [47].toArray 3 [(t_ 17)],(some (15,false)),false⟩,
 ⟨(some 19),.bin .gtr 3 (t_ 18) (k_ 12),(some (15,false)),false⟩,
 (q_ 20 (.pick (t_ 15) (.const (.bool true)) (t_ 19)))]
def ac73_G2:List AOper:=
 [⟨(some 39),.faddr 1 1 false (t_ 4),(some (38,false)),false⟩,
 ⟨(some 40),.load 1 false (t_ 39),(some (38,false)),false⟩,
 ⟨(some 41),.bin .gtr 3 (t_ 40) (k_ 32),(some (38,false)),false⟩,
 (q_ 42 (.pick (t_ 38) (.const (.bool true)) (t_ 41)))]
def ac73_L1:AC:=
 .seq (r_ [q_ 25 (.bin .lss 3 (t_ 24) (t_ 23))])
 (.seq (.cond (t_ 25)
 (.skip)
 (.exit 1))
 (.seq (.block 2 (.seq (r_ [m_ 26 24,
 q_ 27 (.iaddr 2 (t_ 22) (t_ 24)),
 q_ 28 (.load 2 true (t_ 27)),
 ⟨(some 4),.alloc true 85 (.agg [(.string ⟨[].toArray⟩),(.int .i64 0)].toArray),none,false⟩,
 m_ 3 26,
 ⟨none,.store 2 (t_ 4) (t_ 28),none,false⟩])
 (.block 3 (.seq (r_ [f_ 30 0 4,
 l_ 31 30,
 q_ 32 (.call (.func 83) [(t_ 31)]),
 q_ 33 (.un .not (t_ 32)),
 m_ 29 33])
 (.cond (t_ 29)
 (.seq (r_ [q_ 2 (.move (k_ 6))])
 (.ret))
 (.seq (r_ (f_ 35 1 4::l_ 36 35::(q_ 37 (.bin .lss 3 (t_ 36) (k_ 1)))::m_ 38 37::(ac73_G2++[m_ 34 42])))
 (.cond (t_ 34)
 (.seq (r_ [q_ 2 (.move (k_ 10))])
 (.ret))
 (.seq (r_ [f_ 44 1 1,
 l_ 45 44,
 m_ 46 3,
 (q_ 47 (.slice 23 2 (t_ 45) none (some (t_ 46)) none)),
 q_ 48 (.mkFunc (.func 85) [] [(t_ 4)]),
 q_ 49 (.call (.func 84) [(t_ 47),(t_ 48)]),
 m_ 43 49])
 (.cond (t_ 43)
 (.seq (r_ [q_ 2 (.move (k_ 7))])
 (.ret))
 (.skip))))))))))
 (r_ [q_ 50 (.bin .add 3 (t_ 24) (k_ 1)),
 m_ 24 50])))
/-- patchbay/action.declaration -/
def ac73:AC:=
 .seq (r_ [q_ 1 (.box false 49 (t_ 0)),
 q_ 2 (.move (k_ 0))])
 (.seq (.block 0 (.seq (r_ [f_ 6 0 1,
 l_ 7 6,
 q_ 8 (.call (.func 83) [(t_ 7)]),
 q_ 9 (.un .not (t_ 8)),
 m_ 5 9])
 (.cond (t_ 5)
 (.seq (r_ [q_ 2 (.move (k_ 6))])
 (.ret))
 (.seq (r_ (f_ 11 1 1::l_ 12 11::n_ 13 23 12::(q_ 14 (.bin .gtr 3 (t_ 13) (k_ 4)))::m_ 15 14::(ac73_G1++[m_ 10 20])))
 (.cond (t_ 10)
 (.seq (r_ [q_ 2 (.move (k_ 12))])
 (.ret))
 (.skip))))))
 (.seq (.seq (r_ [f_ 21 1 1,
 l_ 22 21,
 n_ 23 23 22,
 q_ 24 (.move (k_ 0))])
 (.block 1 (.loop ac73_L1)))
 (.seq (r_ [q_ 2 (.move (k_ 0))])
 (.ret))))
theorem text73:FnText Try.prog 73 [4] 51 1 ac73 [(2,none)]:=
 ⟨Try.call73,follows,Try.f73,_,Try.func73,rfl,rfl,by decide,by kernel_rfl,by kernel_rfl⟩
def ac86_G1:List AOper:=
 [⟨(some 16),.faddr 0 1 false (t_ 3),(some (15,false)),false⟩,
 ⟨(some 17),.load 1 false (t_ 16),(some (15,false)),false⟩,
 ⟨(some 18),.faddr 1 1 false (t_ 2),(some (15,false)),false⟩,
 ⟨(some 19),.load 1 false (t_ 18),(some (15,false)),false⟩,
 ⟨(some 20),.bi .len [22].toArray 3 [(t_ 19)],(some (15,false)),false⟩,
 ⟨(some 21),.bin .geq 3 (t_ 17) (t_ 20),(some (15,false)),false⟩,
 (q_ 22 (.pick (t_ 15) (.const (.bool true)) (t_ 21)))]
def ac86_G2:List AOper:=
 [⟨(some 34),.faddr 1 1 false (t_ 3),(some (33,false)),false⟩,
 ⟨(some 35),.load 1 false (t_ 34),(some (33,false)),false⟩,
 ⟨(some 36),.move (t_ 6),(some (33,false)),false⟩,
 ⟨(some 37),.bi .len [23].toArray 3 [(t_ 36)],(some (33,false)),false⟩,
 ⟨(some 38),.bin .geq 3 (t_ 35) (t_ 37),(some (33,false)),false⟩,
 (q_ 39 (.pick (t_ 33) (.const (.bool true)) (t_ 38)))]
/-- patchbay/action.width -/
def ac86:AC:=
 .seq (r_ [q_ 2 (.box false 31 (t_ 0)),
 q_ 3 (.box false 58 (t_ 1)),
 q_ 4 (.move (k_ 0)),
 (q_ 5 (.move (.const (.bool false))))])
 (.seq (r_ [f_ 7 2 2,
 l_ 8 7,
 m_ 6 8])
 (.seq (.seq (r_ [f_ 9 0 3,
 l_ 10 9,
 (q_ 11 (.bin .neq 3 (t_ 10) (.const (.int .i64 (-1)))))])
 (.cond (t_ 11)
 (.seq (.seq (r_ (f_ 12 0 3::l_ 13 12::(q_ 14 (.bin .lss 3 (t_ 13) (k_ 0)))::m_ 15 14::(ac86_G1++[])))
 (.cond (t_ 22)
 (.seq (r_ [q_ 4 (.move (k_ 0)),
 (q_ 5 (.move (.const (.bool false))))])
 (.ret))
 (.skip)))
 (r_ [f_ 23 1 2,
 l_ 24 23,
 f_ 25 0 3,
 l_ 26 25,
 q_ 27 (.iaddr 2 (t_ 24) (t_ 26)),
 f_ 28 1 27,
 l_ 29 28,
 m_ 6 29]))
 (.skip)))
 (.seq (.seq (r_ (f_ 30 1 3::l_ 31 30::(q_ 32 (.bin .lss 3 (t_ 31) (k_ 0)))::m_ 33 32::(ac86_G2++[])))
 (.cond (t_ 39)
 (.seq (r_ [q_ 4 (.move (k_ 0)),
 (q_ 5 (.move (.const (.bool false))))])
 (.ret))
 (.skip)))
 (.seq (r_ [m_ 40 6,
 f_ 41 1 3,
 l_ 42 41,
 q_ 43 (.iaddr 2 (t_ 40) (t_ 42)),
 f_ 44 1 43,
 l_ 45 44,
 m_ 4 45,
 (q_ 5 (.move (.const (.bool true))))])
 (.ret)))))
theorem text86:FnText Try.prog 86 [] 46 2 ac86 [(4,none),(5,none)]:=
 ⟨Try.call86,follows,Try.f86,_,Try.func86,rfl,rfl,by decide,by kernel_rfl,by kernel_rfl⟩
/-- patchbay/expr.arity -/
def ac97:AC:=
 .seq (r_ [q_ 2 (.move (k_ 0))])
 (.seq (.seq (r_ [m_ 3 0])
 (.block 0 (.seq (.seq (r_ [q_ 5 (.bin .eql 3 (t_ 3) (k_ 1)),
 m_ 4 5])
 (.cond (t_ 4)
 (.skip)
 (.seq (r_ [q_ 6 (.bin .eql 3 (t_ 3) (k_ 2)),
 m_ 4 6])
 (.cond (t_ 4)
 (.skip)
 (.seq (r_ [q_ 7 (.bin .eql 3 (t_ 3) (k_ 3)),
 m_ 4 7])
 (.cond (t_ 4)
 (.skip)
 (r_ [q_ 8 (.bin .eql 3 (t_ 3) (k_ 4)),
 m_ 4 8])))))))
 (.cond (t_ 4)
 (.seq (r_ [q_ 2 (.move (k_ 0))])
 (.ret))
 (.seq (.seq (r_ [q_ 10 (.bin .eql 3 (t_ 3) (k_ 5)),
 m_ 9 10])
 (.cond (t_ 9)
 (.skip)
 (.seq (r_ [q_ 11 (.bin .eql 3 (t_ 3) (k_ 6)),
 m_ 9 11])
 (.cond (t_ 9)
 (.skip)
 (.seq (r_ [q_ 12 (.bin .eql 3 (t_ 3) (k_ 7)),
 m_ 9 12])
 (.cond (t_ 9)
 (.skip)
 (r_ [q_ 13 (.bin .eql 3 (t_ 3) (k_ 8)),
 m_ 9 13])))))))
 (.cond (t_ 9)
 (.seq (r_ [q_ 2 (.move (k_ 1))])
 (.ret))
 (.seq (.seq (r_ [q_ 15 (.bin .eql 3 (t_ 3) (k_ 9)),
 m_ 14 15])
 (.cond (t_ 14)
 (.skip)
 (.seq (r_ [q_ 16 (.bin .eql 3 (t_ 3) (k_ 10)),
 m_ 14 16])
 (.cond (t_ 14)
 (.skip)
 (.seq (r_ [q_ 17 (.bin .eql 3 (t_ 3) (k_ 11)),
 m_ 14 17])
 (.cond (t_ 14)
 (.skip)
 (.seq (r_ [q_ 18 (.bin .eql 3 (t_ 3) (k_ 12)),
 m_ 14 18])
 (.cond (t_ 14)
 (.skip)
 (.seq (r_ [q_ 19 (.bin .eql 3 (t_ 3) (k_ 13)),
 m_ 14 19])
 (.cond (t_ 14)
 (.skip)
 (.seq (r_ [q_ 20 (.bin .eql 3 (t_ 3) (k_ 14)),
 m_ 14 20])
 (.cond (t_ 14)
 (.skip)
 (.seq (r_ [q_ 21 (.bin .eql 3 (t_ 3) (k_ 15)),
 m_ 14 21])
 (.cond (t_ 14)
 (.skip)
 (r_ [q_ 22 (.bin .eql 3 (t_ 3) (k_ 16)),
 m_ 14 22])))))))))))))))
 (.cond (t_ 14)
 (.seq (r_ [q_ 2 (.move (k_ 2))])
 (.ret))
 (.seq (r_ [q_ 24 (.bin .eql 3 (t_ 3) (k_ 17)),
 m_ 23 24])
 (.cond (t_ 23)
 (.seq (r_ [q_ 2 (.move (k_ 3))])
 (.ret))
 (.skip)))))))))))
 (.seq (r_ [(q_ 2 (.move (.const (.int .i64 (-1)))))])
 (.ret)))
theorem text97:FnText Try.prog 97 [] 25 1 ac97 [(2,none)]:=
 ⟨Try.call97,follows,Try.f97,_,Try.func97,rfl,rfl,by decide,by kernel_rfl,by kernel_rfl⟩
def ac100_G1:List AOper:=
 [⟨(some 7),.move (t_ 0),(some (6,false)),false⟩,
 ⟨(some 8),.bin .gtr 3 (t_ 7) (k_ 32),(some (6,false)),false⟩,
 (q_ 9 (.pick (t_ 6) (.const (.bool true)) (t_ 8)))]
/-- patchbay/expr.wide -/
def ac100:AC:=
 .seq (r_ [q_ 2 (.move (k_ 0)),
 q_ 3 (.move (k_ 0))])
 (.seq (.seq (r_ (m_ 4 0::(q_ 5 (.bin .lss 3 (t_ 4) (k_ 1)))::m_ 6 5::(ac100_G1++[])))
 (.cond (t_ 9)
 (.seq (r_ [q_ 2 (.move (k_ 0)),
 q_ 3 (.move (k_ 10))])
 (.ret))
 (.skip)))
 (.seq (r_ [m_ 10 0,
 m_ 2 10,
 q_ 3 (.move (k_ 0))])
 (.ret)))
theorem text100:FnText Try.prog 100 [] 11 1 ac100 [(2,none),(3,none)]:=
 ⟨Try.call100,follows,Try.f100,_,Try.func100,rfl,rfl,by decide,by kernel_rfl,by kernel_rfl⟩
def ac53_G1:List AOper:=
 [⟨(some 14),.move (t_ 4),(some (13,false)),false⟩,
 ⟨(some 15),.bin .gtr 3 (t_ 14) (k_ 32),(some (13,false)),false⟩,
 (q_ 16 (.pick (t_ 13) (.const (.bool true)) (t_ 15)))]
def ac53_L1:AC:=
 .seq (r_ [q_ 8 (.bin .lss 3 (t_ 7) (t_ 6))])
 (.seq (.cond (t_ 8)
 (.skip)
 (.exit 0))
 (.seq (.block 1 (.seq (r_ [q_ 9 (.iaddr 1 (t_ 5) (t_ 7)),
 l_ 10 9,
 m_ 4 10])
 (.seq (r_ (m_ 11 4::(q_ 12 (.bin .lss 3 (t_ 11) (k_ 1)))::m_ 13 12::(ac53_G1++[])))
 (.cond (t_ 16)
 (.seq (r_ [(q_ 2 (.move (.const (.bool false))))])
 (.ret))
 (.skip)))))
 (r_ [q_ 17 (.bin .add 3 (t_ 7) (k_ 1)),
 m_ 7 17])))
/-- patchbay/bitvec.valid -/
def ac53:AC:=
 .seq (r_ [(q_ 2 (.move (.const (.bool false))))])
 (.seq (.seq (r_ [m_ 5 0,
 n_ 6 29 5,
 q_ 7 (.move (k_ 0))])
 (.block 0 (.loop ac53_L1)))
 (.seq (r_ [(q_ 2 (.move (.const (.bool true))))])
 (.ret)))
theorem text53:FnText Try.prog 53 [] 18 1 ac53 [(2,none)]:=
 ⟨Try.call53,follows,Try.f53,_,Try.func53,rfl,rfl,by decide,by kernel_rfl,by kernel_rfl⟩
/-- patchbay/bitvec.Mask -/
def ac45:AC:=
 .seq (r_ [(q_ 2 (.move (.const (.int .u32 0))))])
 (.seq (.seq (r_ [m_ 3 0,
 q_ 4 (.bslice false 3 1 false [(t_ 3)]),
 q_ 5 (.call (.func 53) [(t_ 4)]),
 q_ 6 (.un .not (t_ 5))])
 (.cond (t_ 6)
 (.seq (r_ [(q_ 2 (.move (.const (.int .u32 0))))])
 (.ret))
 (.skip)))
 (.seq (r_ [m_ 7 0,
 q_ 8 (.bin .sub 3 (k_ 32) (t_ 7)),
 (q_ 9 (.bin .shr 108 (.const (.int .u32 4294967295)) (t_ 8))),
 m_ 2 9])
 (.ret)))
theorem text45:FnText Try.prog 45 [] 10 1 ac45 [(2,none)]:=
 ⟨Try.call45,follows,Try.f45,_,Try.func45,rfl,rfl,by decide,by kernel_rfl,by kernel_rfl⟩
def ac101_G1:List AOper:=
 [⟨(some 17),.move (t_ 1),(some (16,false)),false⟩,
 ⟨(some 18),.faddr 0 9 true (t_ 3),(some (16,false)),false⟩,
 ⟨(some 19),.faddr 1 1 false (t_ 18),(some (16,false)),false⟩,
 ⟨(some 20),.load 1 false (t_ 19),(some (16,false)),false⟩,
 ⟨(some 21),.bi .len [22].toArray 3 [(t_ 20)],(some (16,false)),false⟩,
 ⟨(some 22),.bin .geq 3 (t_ 17) (t_ 21),(some (16,false)),false⟩,
 (q_ 23 (.pick (t_ 16) (.const (.bool true)) (t_ 22)))]
def ac101_G2:List AOper:=
 [⟨(some 35),.move (t_ 2),(some (34,false)),false⟩,
 ⟨(some 36),.move (t_ 8),(some (34,false)),false⟩,
 ⟨(some 37),.bi .len [23].toArray 3 [(t_ 36)],(some (34,false)),false⟩,
 ⟨(some 38),.bin .geq 3 (t_ 35) (t_ 37),(some (34,false)),false⟩,
 (q_ 39 (.pick (t_ 34) (.const (.bool true)) (t_ 38)))]
/-- (patchbay/expr.Scope).field -/
def ac101:AC:=
 .seq (r_ [q_ 3 (.box false 140 (t_ 0)),
 ⟨(some 6),.alloc true 85 (.agg [(.string ⟨[].toArray⟩),(.int .i64 0)].toArray),none,false⟩,
 (q_ 7 (.move (.const (.bool false))))])
 (.seq (r_ [q_ 9 (.faddr 0 9 true (t_ 3)),
 f_ 10 2 9,
 l_ 11 10,
 m_ 8 11])
 (.seq (.seq (r_ [m_ 12 1,
 (q_ 13 (.bin .neq 3 (t_ 12) (.const (.int .i64 (-1)))))])
 (.cond (t_ 13)
 (.seq (.seq (r_ (m_ 14 1::(q_ 15 (.bin .lss 3 (t_ 14) (k_ 0)))::m_ 16 15::(ac101_G1++[])))
 (.cond (t_ 23)
 (.seq (r_ [⟨(some 24),.build [(.string ⟨[].toArray⟩),(.int .i64 0)] [],none,false⟩,
 ⟨none,.store 2 (t_ 6) (t_ 24),none,false⟩,
 (q_ 7 (.move (.const (.bool false))))])
 (.ret))
 (.skip)))
 (r_ [q_ 25 (.faddr 0 9 true (t_ 3)),
 f_ 26 1 25,
 l_ 27 26,
 m_ 28 1,
 q_ 29 (.iaddr 2 (t_ 27) (t_ 28)),
 f_ 30 1 29,
 l_ 31 30,
 m_ 8 31]))
 (.skip)))
 (.seq (.seq (r_ (m_ 32 2::(q_ 33 (.bin .lss 3 (t_ 32) (k_ 0)))::m_ 34 33::(ac101_G2++[])))
 (.cond (t_ 39)
 (.seq (r_ [⟨(some 40),.build [(.string ⟨[].toArray⟩),(.int .i64 0)] [],none,false⟩,
 ⟨none,.store 2 (t_ 6) (t_ 40),none,false⟩,
 (q_ 7 (.move (.const (.bool false))))])
 (.ret))
 (.skip)))
 (.seq (r_ [m_ 41 8,
 m_ 42 2,
 q_ 43 (.iaddr 2 (t_ 41) (t_ 42)),
 q_ 44 (.load 2 true (t_ 43)),
 ⟨none,.store 2 (t_ 6) (t_ 44),none,false⟩,
 (q_ 7 (.move (.const (.bool true))))])
 (.ret)))))
theorem text101:FnText Try.prog 101 [6] 45 3 ac101 [(6,some (2,true)),(7,none)]:=
 ⟨Try.call101,follows,Try.f101,_,Try.func101,rfl,rfl,by decide,by kernel_rfl,by kernel_rfl⟩
def ac98_G2:List AOper:=
 [⟨(some 27),.faddr 1 1 false (t_ 3),(some (26,false)),false⟩,
 ⟨(some 28),.load 1 false (t_ 27),(some (26,false)),false⟩,
 ⟨(some 29),.move (t_ 6),(some (26,false)),false⟩,
 ⟨(some 30),.call (.func 45) [(t_ 29)],(some (26,false)),false⟩,
 ⟨(some 31),.conv 108 3 (t_ 30),(some (26,false)),false⟩,
 ⟨(some 32),.bin .gtr 3 (t_ 28) (t_ 31),(some (26,false)),false⟩,
 ⟨(some 33),.pick (t_ 26) (.const (.bool true)) (t_ 32),(some (22,true)),false⟩]
def ac98_G1:List AOper:=
 (⟨(some 23),.faddr 1 1 false (t_ 3),(some (22,true)),false⟩::⟨(some 24),.load 1 false (t_ 23),(some (22,true)),false⟩::⟨(some 25),.bin .lss 3 (t_ 24) (k_ 0),(some (22,true)),false⟩::⟨(some 26),.move (t_ 25),(some (22,true)),false⟩::(ac98_G2++[(q_ 34 (.pick (t_ 22) (t_ 33) (.const (.bool false))))]))
def ac98_G3:List AOper:=
 [⟨(some 61),.faddr 1 1 false (t_ 3),(some (60,false)),false⟩,
 ⟨(some 62),.load 1 false (t_ 61),(some (60,false)),false⟩,
 ⟨(some 63),.faddr 9 1 false (t_ 2),(some (60,false)),false⟩,
 ⟨(some 64),.load 1 false (t_ 63),(some (60,false)),false⟩,
 ⟨(some 65),.bi .len [23].toArray 3 [(t_ 64)],(some (60,false)),false⟩,
 ⟨(some 66),.bin .geq 3 (t_ 62) (t_ 65),(some (60,false)),false⟩,
 (q_ 67 (.pick (t_ 60) (.const (.bool true)) (t_ 66)))]
def ac98_G4:List AOper:=
 [⟨(some 82),.faddr 1 1 false (t_ 3),(some (81,false)),false⟩,
 ⟨(some 83),.load 1 false (t_ 82),(some (81,false)),false⟩,
 ⟨(some 84),.faddr 0 9 true (t_ 2),(some (81,false)),false⟩,
 ⟨(some 85),.faddr 1 1 false (t_ 84),(some (81,false)),false⟩,
 ⟨(some 86),.load 1 false (t_ 85),(some (81,false)),false⟩,
 ⟨(some 87),.bi .len [22].toArray 3 [(t_ 86)],(some (81,false)),false⟩,
 ⟨(some 88),.bin .geq 3 (t_ 83) (t_ 87),(some (81,false)),false⟩,
 (q_ 89 (.pick (t_ 81) (.const (.bool true)) (t_ 88)))]
/-- (patchbay/expr.Scope).primary -/
def ac98:AC:=
 .seq (r_ [q_ 2 (.box false 140 (t_ 0)),
 q_ 3 (.box false 64 (t_ 1)),
 q_ 4 (.move (k_ 0)),
 q_ 5 (.move (k_ 0))])
 (.seq (.seq (r_ [f_ 10 0 3,
 l_ 11 10])
 (.block 0 (.seq (r_ [q_ 13 (.bin .eql 3 (t_ 11) (k_ 1)),
 m_ 12 13])
 (.cond (t_ 12)
 (.seq (r_ [f_ 15 2 3,
 l_ 16 15,
 q_ 17 (.call (.func 100) [(t_ 16)]),
 m_ 14 17,
 q_ 18 (.extract (t_ 14) 0),
 q_ 19 (.extract (t_ 14) 1),
 m_ 6 18,
 m_ 7 19])
 (.seq (.seq (.region true (m_ 20 7::(q_ 21 (.bin .eql 115 (t_ 20) (k_ 0)))::m_ 22 21::(ac98_G1++[])))
 (.cond (t_ 34)
 (.seq (r_ [q_ 4 (.move (k_ 0)),
 q_ 5 (.move (k_ 9))])
 (.ret))
 (.skip)))
 (.seq (r_ [m_ 35 6,
 m_ 36 7,
 m_ 4 35,
 m_ 5 36])
 (.ret))))
 (.seq (r_ [q_ 38 (.bin .eql 3 (t_ 11) (k_ 2)),
 m_ 37 38])
 (.cond (t_ 37)
 (.seq (r_ [q_ 40 (.load 10 true (t_ 2)),
 f_ 41 1 3,
 l_ 42 41,
 f_ 43 2 3,
 l_ 44 43,
 q_ 45 (.call (.func 101) [(t_ 40),(t_ 42),(t_ 44)]),
 m_ 39 45,
 q_ 46 (.extract (t_ 39) 0),
 q_ 47 (.extract (t_ 39) 1),
 ⟨(some 8),.alloc true 85 (.agg [(.string ⟨[].toArray⟩),(.int .i64 0)].toArray),none,false⟩,
 ⟨none,.store 2 (t_ 8) (t_ 46),none,false⟩,
 m_ 9 47])
 (.seq (.seq (r_ [m_ 48 9,
 q_ 49 (.un .not (t_ 48))])
 (.cond (t_ 49)
 (.seq (r_ [q_ 4 (.move (k_ 0)),
 q_ 5 (.move (k_ 8))])
 (.ret))
 (.skip)))
 (.seq (r_ [f_ 50 1 8,
 l_ 51 50,
 q_ 52 (.call (.func 100) [(t_ 51)]),
 q_ 53 (.extract (t_ 52) 0),
 q_ 54 (.extract (t_ 52) 1),
 m_ 4 53,
 m_ 5 54])
 (.ret))))
 (.seq (r_ [q_ 56 (.bin .eql 3 (t_ 11) (k_ 3)),
 m_ 55 56])
 (.cond (t_ 55)
 (.seq (.seq (r_ (f_ 57 1 3::l_ 58 57::(q_ 59 (.bin .lss 3 (t_ 58) (k_ 0)))::m_ 60 59::(ac98_G3++[])))
 (.cond (t_ 67)
 (.seq (r_ [q_ 4 (.move (k_ 0)),
 q_ 5 (.move (k_ 8))])
 (.ret))
 (.skip)))
 (.seq (r_ [f_ 68 9 2,
 l_ 69 68,
 f_ 70 1 3,
 l_ 71 70,
 q_ 72 (.iaddr 2 (t_ 69) (t_ 71)),
 f_ 73 1 72,
 l_ 74 73,
 q_ 75 (.call (.func 100) [(t_ 74)]),
 q_ 76 (.extract (t_ 75) 0),
 q_ 77 (.extract (t_ 75) 1),
 m_ 4 76,
 m_ 5 77])
 (.ret)))
 (.skip)))))))))
 (.seq (.seq (r_ (f_ 78 1 3::l_ 79 78::(q_ 80 (.bin .lss 3 (t_ 79) (k_ 0)))::m_ 81 80::(ac98_G4++[])))
 (.cond (t_ 89)
 (.seq (r_ [q_ 4 (.move (k_ 0)),
 q_ 5 (.move (k_ 8))])
 (.ret))
 (.skip)))
 (.seq (r_ [q_ 4 (.move (k_ 1)),
 q_ 5 (.move (k_ 0))])
 (.ret))))
theorem text98:FnText Try.prog 98 [8] 90 2 ac98 [(4,none),(5,none)]:=
 ⟨Try.call98,follows,Try.f98,_,Try.func98,rfl,rfl,by decide,by kernel_rfl,by kernel_rfl⟩
def ac99_G1:List AOper:=
 [⟨(some 17),.faddr 1 1 false (t_ 2),(some (16,false)),false⟩,
 ⟨(some 18),.load 1 false (t_ 17),(some (16,false)),false⟩,
 ⟨(some 19),.bin .gtr 3 (t_ 18) (k_ 31),(some (16,false)),false⟩,
 (q_ 20 (.pick (t_ 16) (.const (.bool true)) (t_ 19)))]
def ac99_G2:List AOper:=
 [⟨(some 35),.faddr 1 1 false (t_ 2),(some (34,false)),false⟩,
 ⟨(some 36),.load 1 false (t_ 35),(some (34,false)),false⟩,
 ⟨(some 37),.iaddrA 3 1 false (t_ 3) (k_ 0),(some (34,false)),false⟩,
 ⟨(some 38),.load 1 false (t_ 37),(some (34,false)),false⟩,
 ⟨(some 39),.faddr 2 1 false (t_ 2),(some (34,false)),false⟩,
 ⟨(some 40),.load 1 false (t_ 39),(some (34,false)),false⟩,
 ⟨(some 41),.bin .sub 3 (t_ 38) (t_ 40),(some (34,false)),false⟩,
 ⟨(some 42),.bin .gtr 3 (t_ 36) (t_ 41),(some (34,false)),false⟩,
 (q_ 43 (.pick (t_ 34) (.const (.bool true)) (t_ 42)))]
def ac99_G3:List AOper:=
 [⟨(some 62),.iaddrA 3 1 false (t_ 3) (k_ 1),(some (61,false)),false⟩,
 ⟨(some 63),.load 1 false (t_ 62),(some (61,false)),false⟩,
 ⟨(some 64),.iaddrA 3 1 false (t_ 3) (k_ 2),(some (61,false)),false⟩,
 ⟨(some 65),.load 1 false (t_ 64),(some (61,false)),false⟩,
 ⟨(some 66),.bin .neq 3 (t_ 63) (t_ 65),(some (61,false)),false⟩,
 (q_ 67 (.pick (t_ 61) (.const (.bool true)) (t_ 66)))]
def ac99_G4:List AOper:=
 [⟨(some 75),.iaddrA 3 1 false (t_ 3) (k_ 0),(some (74,true)),false⟩,
 ⟨(some 76),.load 1 false (t_ 75),(some (74,true)),false⟩,
 ⟨(some 77),.iaddrA 3 1 false (t_ 3) (k_ 1),(some (74,true)),false⟩,
 ⟨(some 78),.load 1 false (t_ 77),(some (74,true)),false⟩,
 ⟨(some 79),.bin .neq 3 (t_ 76) (t_ 78),(some (74,true)),false⟩,
 (q_ 80 (.pick (t_ 74) (t_ 79) (.const (.bool false))))]
def ac99_G5:List AOper:=
 [⟨(some 85),.faddr 0 1 false (t_ 2),(some (84,false)),false⟩,
 ⟨(some 86),.load 1 false (t_ 85),(some (84,false)),false⟩,
 ⟨(some 87),.bin .eql 3 (t_ 86) (k_ 16),(some (84,false)),false⟩,
 (q_ 88 (.pick (t_ 84) (.const (.bool true)) (t_ 87)))]
/-- patchbay/expr.combine -/
def ac99:AC:=
 .seq (r_ [q_ 2 (.box false 64 (t_ 0)),
 q_ 3 (.box false 169 (t_ 1)),
 q_ 4 (.move (k_ 0)),
 q_ 5 (.move (k_ 0))])
 (.seq (.seq (r_ [f_ 8 0 2,
 l_ 9 8])
 (.block 0 (.seq (.seq (r_ [q_ 11 (.bin .eql 3 (t_ 9) (k_ 6)),
 m_ 10 11])
 (.cond (t_ 10)
 (.skip)
 (r_ [q_ 12 (.bin .eql 3 (t_ 9) (k_ 7)),
 m_ 10 12])))
 (.cond (t_ 10)
 (.seq (r_ (f_ 13 1 2::l_ 14 13::(q_ 15 (.bin .lss 3 (t_ 14) (k_ 0)))::m_ 16 15::(ac99_G1++[])))
 (.cond (t_ 20)
 (.seq (r_ [q_ 4 (.move (k_ 0)),
 q_ 5 (.move (k_ 9))])
 (.ret))
 (.skip)))
 (.seq (r_ [q_ 22 (.bin .eql 3 (t_ 9) (k_ 8)),
 m_ 21 22])
 (.cond (t_ 21)
 (.seq (.seq (r_ [f_ 23 1 2,
 l_ 24 23,
 q_ 25 (.bin .lss 3 (t_ 24) (k_ 0))])
 (.cond (t_ 25)
 (.seq (r_ [q_ 4 (.move (k_ 0)),
 q_ 5 (.move (k_ 9))])
 (.ret))
 (.skip)))
 (.seq (.seq (r_ [f_ 27 2 2,
 l_ 28 27,
 q_ 29 (.call (.func 100) [(t_ 28)]),
 m_ 26 29,
 q_ 30 (.extract (t_ 26) 0),
 q_ 31 (.extract (t_ 26) 1),
 m_ 6 30,
 m_ 7 31])
 (.seq (r_ (m_ 32 7::(q_ 33 (.bin .neq 115 (t_ 32) (k_ 0)))::m_ 34 33::(ac99_G2++[])))
 (.cond (t_ 43)
 (.seq (r_ [q_ 4 (.move (k_ 0)),
 q_ 5 (.move (k_ 10))])
 (.ret))
 (.skip))))
 (.seq (r_ [f_ 44 2 2,
 l_ 45 44,
 m_ 4 45,
 q_ 5 (.move (k_ 0))])
 (.ret))))
 (.seq (r_ [q_ 47 (.bin .eql 3 (t_ 9) (k_ 14)),
 m_ 46 47])
 (.cond (t_ 46)
 (.seq (r_ [q_ 48 (.iaddrA 3 1 false (t_ 3) (k_ 0)),
 l_ 49 48,
 q_ 50 (.iaddrA 3 1 false (t_ 3) (k_ 1)),
 l_ 51 50,
 q_ 52 (.bin .add 3 (t_ 49) (t_ 51)),
 q_ 53 (.call (.func 100) [(t_ 52)]),
 q_ 54 (.extract (t_ 53) 0),
 q_ 55 (.extract (t_ 53) 1),
 m_ 4 54,
 m_ 5 55])
 (.ret))
 (.seq (r_ [q_ 57 (.bin .eql 3 (t_ 9) (k_ 17)),
 m_ 56 57])
 (.cond (t_ 56)
 (.seq (.seq (r_ ((q_ 58 (.iaddrA 3 1 false (t_ 3) (k_ 0)))::l_ 59 58::(q_ 60 (.bin .neq 3 (t_ 59) (k_ 1)))::m_ 61 60::(ac99_G3++[])))
 (.cond (t_ 67)
 (.seq (r_ [q_ 4 (.move (k_ 0)),
 q_ 5 (.move (k_ 10))])
 (.ret))
 (.skip)))
 (.seq (r_ [q_ 68 (.iaddrA 3 1 false (t_ 3) (k_ 1)),
 l_ 69 68,
 m_ 4 69,
 q_ 5 (.move (k_ 0))])
 (.ret)))
 (.skip)))))))))))
 (.seq (.seq (r_ (f_ 70 0 2::l_ 71 70::(q_ 72 (.call (.func 97) [(t_ 71)]))::(q_ 73 (.bin .eql 3 (t_ 72) (k_ 2)))::m_ 74 73::(ac99_G4++[])))
 (.cond (t_ 80)
 (.seq (r_ [q_ 4 (.move (k_ 0)),
 q_ 5 (.move (k_ 10))])
 (.ret))
 (.skip)))
 (.seq (.seq (r_ (f_ 81 0 2::l_ 82 81::(q_ 83 (.bin .eql 3 (t_ 82) (k_ 15)))::m_ 84 83::(ac99_G5++[])))
 (.cond (t_ 88)
 (.seq (r_ [q_ 4 (.move (k_ 1)),
 q_ 5 (.move (k_ 0))])
 (.ret))
 (.skip)))
 (.seq (r_ [q_ 89 (.iaddrA 3 1 false (t_ 3) (k_ 0)),
 l_ 90 89,
 m_ 4 90,
 q_ 5 (.move (k_ 0))])
 (.ret)))))
theorem text99:FnText Try.prog 99 [] 91 2 ac99 [(4,none),(5,none)]:=
 ⟨Try.call99,follows,Try.f99,_,Try.func99,rfl,rfl,by decide,by kernel_rfl,by kernel_rfl⟩
def ac96_L1:AC:=
 .seq (r_ [q_ 45 (.bin .lss 3 (t_ 44) (t_ 43))])
 (.seq (.cond (t_ 45)
 (.skip)
 (.exit 1))
 (.seq (.block 2 (.seq (r_ [m_ 46 44,
 m_ 11 46])
 (.seq (r_ [m_ 48 11,
 q_ 49 (.load 10 true (t_ 3)),
 m_ 50 1,
 m_ 51 7,
 q_ 52 (.call (.func 96) [(t_ 49),(t_ 50),(t_ 51)]),
 m_ 47 52,
 q_ 53 (.extract (t_ 47) 0),
 q_ 54 (.extract (t_ 47) 1),
 q_ 55 (.extract (t_ 47) 2),
 q_ 56 (.iaddrA 3 1 false (t_ 10) (t_ 48)),
 ⟨none,.store 1 (t_ 56) (t_ 53),none,false⟩,
 m_ 7 54,
 m_ 8 55])
 (.seq (r_ [m_ 57 8,
 q_ 58 (.bin .neq 115 (t_ 57) (k_ 0))])
 (.cond (t_ 58)
 (.seq (r_ [m_ 59 8,
 q_ 6 (.move (k_ 0)),
 q_ 7 (.move (k_ 0)),
 m_ 8 59])
 (.ret))
 (.skip))))))
 (r_ [q_ 60 (.bin .add 3 (t_ 44) (k_ 1)),
 m_ 44 60])))
/-- (patchbay/expr.Scope).check -/
def ac96:AC:=
 .seq (r_ [q_ 3 (.box false 140 (t_ 0)),
 q_ 6 (.move (k_ 0)),
 q_ 7 (.move (k_ 0)),
 q_ 8 (.move (k_ 0))])
 (.seq (.seq (r_ [m_ 12 2,
 m_ 13 1,
 n_ 14 32 13,
 q_ 15 (.bin .geq 3 (t_ 12) (t_ 14))])
 (.cond (t_ 15)
 (.seq (r_ [q_ 6 (.move (k_ 0)),
 q_ 7 (.move (k_ 0)),
 q_ 8 (.move (k_ 3))])
 (.ret))
 (.skip)))
 (.seq (r_ [m_ 16 1,
 m_ 17 2,
 q_ 18 (.iaddr 3 (t_ 16) (t_ 17)),
 f_ 19 0 18,
 l_ 20 19,
 q_ 21 (.call (.func 97) [(t_ 20)]),
 m_ 9 21])
 (.seq (.block 0 (.seq (r_ [m_ 23 9,
 q_ 24 (.bin .lss 3 (t_ 23) (k_ 0)),
 m_ 22 24])
 (.cond (t_ 22)
 (.seq (r_ [q_ 6 (.move (k_ 0)),
 q_ 7 (.move (k_ 0)),
 q_ 8 (.move (k_ 11))])
 (.ret))
 (.seq (r_ [m_ 26 9,
 q_ 27 (.bin .eql 3 (t_ 26) (k_ 0)),
 m_ 25 27])
 (.cond (t_ 25)
 (.seq (.region true [q_ 29 (.load 10 true (t_ 3)),
 m_ 30 1,
 m_ 31 2,
 q_ 32 (.iaddr 3 (t_ 30) (t_ 31)),
 q_ 33 (.load 3 true (t_ 32)),
 q_ 34 (.call (.func 98) [(t_ 29),(t_ 33)]),
 m_ 28 34,
 q_ 35 (.extract (t_ 28) 0),
 q_ 36 (.extract (t_ 28) 1),
 m_ 6 35,
 m_ 8 36])
 (.seq (r_ [m_ 37 6,
 m_ 38 2,
 q_ 39 (.bin .add 3 (t_ 38) (k_ 1)),
 m_ 40 8,
 m_ 6 37,
 m_ 7 39,
 m_ 8 40])
 (.ret)))
 (.skip))))))
 (.seq (r_ [(q_ 10 (.alloc true 169 (.agg [(.int .i64 0),(.int .i64 0),(.int .i64 0)].toArray)))])
 (.seq (r_ [m_ 41 2,
 q_ 42 (.bin .add 3 (t_ 41) (k_ 1)),
 m_ 7 42])
 (.seq (.seq (r_ [m_ 43 9,
 q_ 44 (.move (k_ 0))])
 (.block 1 (.loop ac96_L1)))
 (.seq (.region true [m_ 62 1,
 m_ 63 2,
 q_ 64 (.iaddr 3 (t_ 62) (t_ 63)),
 q_ 65 (.load 3 true (t_ 64)),
 q_ 66 (.load 3 true (t_ 10)),
 q_ 67 (.call (.func 99) [(t_ 65),(t_ 66)]),
 m_ 61 67,
 q_ 68 (.extract (t_ 61) 0),
 q_ 69 (.extract (t_ 61) 1),
 m_ 6 68,
 m_ 8 69])
 (.seq (r_ [m_ 70 6,
 m_ 71 7,
 m_ 72 8,
 m_ 6 70,
 m_ 7 71,
 m_ 8 72])
 (.ret)))))))))
theorem text96:FnText Try.prog 96 [10] 73 3 ac96 [(6,none),(7,none),(8,none)]:=
 ⟨Try.call96,follows,Try.f96,_,Try.func96,rfl,rfl,by decide,by kernel_rfl,by kernel_rfl⟩
/-- patchbay/expr.Check -/
def ac88:AC:=
 .seq (r_ [q_ 3 (.box false 140 (t_ 1)),
 q_ 4 (.move (k_ 0)),
 q_ 5 (.move (k_ 0))])
 (.seq (.seq (r_ [m_ 7 0,
 n_ 8 32 7,
 q_ 9 (.bin .gtr 3 (t_ 8) (k_ 24))])
 (.cond (t_ 9)
 (.seq (r_ [q_ 4 (.move (k_ 0)),
 q_ 5 (.move (k_ 12))])
 (.ret))
 (.skip)))
 (.seq (r_ [q_ 11 (.load 10 true (t_ 3)),
 m_ 12 0,
 q_ 13 (.call (.func 96) [(t_ 11),(t_ 12),(k_ 0)]),
 m_ 10 13,
 q_ 14 (.extract (t_ 10) 0),
 q_ 15 (.extract (t_ 10) 1),
 q_ 16 (.extract (t_ 10) 2),
 m_ 4 14,
 m_ 6 15,
 m_ 5 16])
 (.seq (.block 0 (.seq (r_ [m_ 18 5,
 q_ 19 (.bin .neq 115 (t_ 18) (k_ 0)),
 m_ 17 19])
 (.cond (t_ 17)
 (.seq (r_ [m_ 20 5,
 q_ 4 (.move (k_ 0)),
 m_ 5 20])
 (.ret))
 (.seq (r_ [m_ 22 6,
 m_ 23 0,
 n_ 24 32 23,
 q_ 25 (.bin .lss 3 (t_ 22) (t_ 24)),
 m_ 21 25])
 (.cond (t_ 21)
 (.seq (r_ [q_ 4 (.move (k_ 0)),
 q_ 5 (.move (k_ 4))])
 (.ret))
 (.skip))))))
 (.seq (r_ [m_ 26 4,
 m_ 4 26,
 q_ 5 (.move (k_ 0))])
 (.ret)))))
theorem text88:FnText Try.prog 88 [] 27 2 ac88 [(4,none),(5,none)]:=
 ⟨Try.call88,follows,Try.f88,_,Try.func88,rfl,rfl,by decide,by kernel_rfl,by kernel_rfl⟩
def ac87_G1:List AOper:=
 [⟨(some 19),.move (t_ 7),(some (18,true)),false⟩,
 ⟨(some 20),.move (t_ 2),(some (18,true)),false⟩,
 ⟨(some 21),.bin .neq 3 (t_ 19) (t_ 20),(some (18,true)),false⟩,
 (q_ 22 (.pick (t_ 18) (t_ 21) (.const (.bool false))))]
/-- (patchbay/action.checker).value -/
def ac87:AC:=
 .seq (r_ [q_ 3 (.box false 142 (t_ 0)),
 q_ 6 (.move (k_ 0))])
 (.seq (r_ [m_ 10 1,
 q_ 11 (.faddr 0 10 true (t_ 3)),
 q_ 12 (.load 10 true (t_ 11)),
 q_ 13 (.call (.func 88) [(t_ 10),(t_ 12)]),
 m_ 9 13,
 q_ 14 (.extract (t_ 9) 0),
 q_ 15 (.extract (t_ 9) 1),
 m_ 7 14,
 m_ 8 15])
 (.seq (.seq (r_ (m_ 16 8::(q_ 17 (.bin .eql 115 (t_ 16) (k_ 0)))::m_ 18 17::(ac87_G1++[])))
 (.cond (t_ 22)
 (.seq (r_ [q_ 6 (.move (k_ 10))])
 (.ret))
 (.skip)))
 (.seq (r_ [m_ 23 8,
 m_ 6 23])
 (.ret))))
theorem text87:FnText Try.prog 87 [] 24 3 ac87 [(6,none)]:=
 ⟨Try.call87,follows,Try.f87,_,Try.func87,rfl,rfl,by decide,by kernel_rfl,by kernel_rfl⟩
def ac74_G1:List AOper:=
 [⟨(some 25),.faddr 3 1 false (t_ 3),(some (24,true)),false⟩,
 ⟨(some 26),.load 1 false (t_ 25),(some (24,true)),false⟩,
 ⟨(some 27),.faddr 3 1 false (t_ 5),(some (24,true)),false⟩,
 ⟨(some 28),.load 1 false (t_ 27),(some (24,true)),false⟩,
 ⟨(some 29),.bi .len [24].toArray 3 [(t_ 28)],(some (24,true)),false⟩,
 ⟨(some 30),.bin .lss 3 (t_ 26) (t_ 29),(some (24,true)),false⟩,
 (q_ 31 (.pick (t_ 24) (t_ 30) (.const (.bool false))))]
def ac74_G2:List AOper:=
 [⟨(some 50),.faddr 4 1 false (t_ 3),(some (49,false)),false⟩,
 ⟨(some 51),.load 1 false (t_ 50),(some (49,false)),false⟩,
 ⟨(some 52),.faddr 1 1 false (t_ 5),(some (49,false)),false⟩,
 ⟨(some 53),.load 1 false (t_ 52),(some (49,false)),false⟩,
 ⟨(some 54),.bi .len [22].toArray 3 [(t_ 53)],(some (49,false)),false⟩,
 ⟨(some 55),.bin .geq 3 (t_ 51) (t_ 54),(some (49,false)),false⟩,
 (q_ 56 (.pick (t_ 49) (.const (.bool true)) (t_ 55)))]
def ac74_G4:List AOper:=
 [⟨(some 67),.move (t_ 7),(some (66,true)),false⟩,
 ⟨(some 68),.un .not (t_ 67),(some (66,true)),false⟩,
 ⟨(some 69),.pick (t_ 66) (t_ 68) (.const (.bool false)),(some (62,false)),false⟩]
def ac74_G3:List AOper:=
 (⟨(some 63),.faddr 0 1 false (t_ 3),(some (62,false)),false⟩::⟨(some 64),.load 1 false (t_ 63),(some (62,false)),false⟩::⟨(some 65),.bin .eql 3 (t_ 64) (k_ 4),(some (62,false)),false⟩::⟨(some 66),.move (t_ 65),(some (62,false)),false⟩::(ac74_G4++[(q_ 70 (.pick (t_ 62) (.const (.bool true)) (t_ 69)))]))
/-- (patchbay/action.checker).statement -/
def ac74:AC:=
 .seq (r_ [q_ 2 (.box false 142 (t_ 0)),
 q_ 3 (.box false 87 (t_ 1)),
 q_ 4 (.move (k_ 0))])
 (.seq (r_ [q_ 11 (.faddr 0 10 true (t_ 2)),
 q_ 12 (.faddr 0 9 true (t_ 11)),
 q_ 13 (.load 9 true (t_ 12)),
 ⟨(some 5),.alloc true 31 (.agg [(.string ⟨[].toArray⟩),(.slice none 0 0),(.slice none 0 0),(.slice none 0 0),(.slice none 0 0),(.slice none 0 0),(.slice none 0 0),(.slice none 0 0),(.slice none 0 0)].toArray),none,false⟩,
 ⟨none,.store 9 (t_ 5) (t_ 13),none,false⟩])
 (.seq (r_ [q_ 15 (.load 9 true (t_ 5)),
 q_ 16 (.faddr 1 2 true (t_ 3)),
 q_ 17 (.load 2 true (t_ 16)),
 q_ 18 (.call (.func 86) [(t_ 15),(t_ 17)]),
 m_ 14 18,
 q_ 19 (.extract (t_ 14) 0),
 q_ 20 (.extract (t_ 14) 1),
 m_ 6 19,
 m_ 7 20])
 (.seq (r_ (f_ 21 3 3::l_ 22 21::(q_ 23 (.bin .geq 3 (t_ 22) (k_ 0)))::m_ 24 23::(ac74_G1++[m_ 8 31])))
 (.seq (.seq (r_ [f_ 32 0 3,
 l_ 33 32])
 (.block 0 (.seq (r_ [q_ 35 (.bin .eql 3 (t_ 33) (k_ 1)),
 m_ 34 35])
 (.cond (t_ 34)
 (.seq (.seq (r_ [m_ 36 7,
 q_ 37 (.un .not (t_ 36))])
 (.cond (t_ 37)
 (.seq (r_ [q_ 4 (.move (k_ 8))])
 (.ret))
 (.skip)))
 (.seq (r_ [q_ 38 (.load 10 true (t_ 2)),
 f_ 39 6 3,
 l_ 40 39,
 m_ 41 6,
 q_ 42 (.call (.func 87) [(t_ 38),(t_ 40),(t_ 41)]),
 m_ 4 42])
 (.ret)))
 (.seq (.seq (r_ [q_ 44 (.bin .eql 3 (t_ 33) (k_ 2)),
 m_ 43 44])
 (.cond (t_ 43)
 (.skip)
 (r_ [q_ 45 (.bin .eql 3 (t_ 33) (k_ 3)),
 m_ 43 45])))
 (.cond (t_ 43)
 (.seq (.seq (r_ (f_ 46 4 3::l_ 47 46::(q_ 48 (.bin .lss 3 (t_ 47) (k_ 0)))::m_ 49 48::(ac74_G2++[])))
 (.cond (t_ 56)
 (.seq (r_ [q_ 4 (.move (k_ 8))])
 (.ret))
 (.skip)))
 (.seq (r_ [q_ 4 (.move (k_ 0))])
 (.ret)))
 (.seq (.seq (r_ [q_ 58 (.bin .eql 3 (t_ 33) (k_ 4)),
 m_ 57 58])
 (.cond (t_ 57)
 (.skip)
 (r_ [q_ 59 (.bin .eql 3 (t_ 33) (k_ 5)),
 m_ 57 59])))
 (.cond (t_ 57)
 (.seq (.seq (r_ (m_ 60 8::(q_ 61 (.un .not (t_ 60)))::m_ 62 61::(ac74_G3++[])))
 (.cond (t_ 70)
 (.seq (r_ [q_ 4 (.move (k_ 8))])
 (.ret))
 (.skip)))
 (.seq (.seq (r_ [f_ 72 5 3,
 l_ 73 72,
 q_ 74 (.faddr 0 10 true (t_ 2)),
 q_ 75 (.load 10 true (t_ 74)),
 q_ 76 (.call (.func 88) [(t_ 73),(t_ 75)]),
 m_ 71 76,
 q_ 77 (.extract (t_ 71) 0),
 q_ 78 (.extract (t_ 71) 1),
 m_ 9 77,
 m_ 10 78])
 (.seq (r_ [m_ 79 10,
 q_ 80 (.bin .neq 115 (t_ 79) (k_ 0))])
 (.cond (t_ 80)
 (.seq (r_ [m_ 81 10,
 m_ 4 81])
 (.ret))
 (.skip))))
 (.seq (.seq (r_ [f_ 82 0 3,
 l_ 83 82,
 q_ 84 (.bin .eql 3 (t_ 83) (k_ 5))])
 (.cond (t_ 84)
 (.seq (.region true [q_ 85 (.load 10 true (t_ 2)),
 f_ 86 6 3,
 l_ 87 86,
 f_ 88 3 5,
 l_ 89 88,
 f_ 90 3 3,
 l_ 91 90,
 q_ 92 (.iaddr 3 (t_ 89) (t_ 91)),
 f_ 93 1 92,
 l_ 94 93,
 q_ 95 (.call (.func 87) [(t_ 85),(t_ 87),(t_ 94)]),
 m_ 4 95])
 (.ret))
 (.skip)))
 (.seq (.seq (r_ [m_ 96 6,
 f_ 97 3 5,
 l_ 98 97,
 f_ 99 3 3,
 l_ 100 99,
 q_ 101 (.iaddr 3 (t_ 98) (t_ 100)),
 f_ 102 1 101,
 l_ 103 102,
 q_ 104 (.bin .neq 3 (t_ 96) (t_ 103))])
 (.cond (t_ 104)
 (.seq (r_ [q_ 4 (.move (k_ 10))])
 (.ret))
 (.skip)))
 (.seq (r_ [q_ 4 (.move (k_ 0))])
 (.ret))))))
 (.skip)))))))))
 (.seq (r_ [q_ 4 (.move (k_ 11))])
 (.ret))))))
theorem text74:FnText Try.prog 74 [5] 105 2 ac74 [(4,none)]:=
 ⟨Try.call74,follows,Try.f74,_,Try.func74,rfl,rfl,by decide,by kernel_rfl,by kernel_rfl⟩
def ac50_G1:List AOper:=
 [⟨(some 13),.move (t_ 1),(some (12,false)),false⟩,
 ⟨(some 14),.faddr 4 1 false (t_ 2),(some (12,false)),false⟩,
 ⟨(some 15),.load 1 false (t_ 14),(some (12,false)),false⟩,
 ⟨(some 16),.bi .len [25].toArray 3 [(t_ 15)],(some (12,false)),false⟩,
 ⟨(some 17),.bin .geq 3 (t_ 13) (t_ 16),(some (12,false)),false⟩,
 (q_ 18 (.pick (t_ 12) (.const (.bool true)) (t_ 17)))]
def ac50_L1:AC:=
 .seq (r_ [q_ 38 (.bin .lss 3 (t_ 37) (t_ 36))])
 (.seq (.cond (t_ 38)
 (.skip)
 (.exit 0))
 (.seq (.block 1 (.seq (r_ [m_ 39 37,
 q_ 40 (.iaddr 7 (t_ 35) (t_ 37)),
 q_ 41 (.load 7 true (t_ 40)),
 (q_ 9 (.alloc true 87 (.agg [(.int .i64 0),(.int .i64 0),(.int .i64 0),(.int .i64 0),(.int .i64 0),(.slice none 0 0),(.slice none 0 0)].toArray))),
 m_ 8 39,
 ⟨none,.store 7 (t_ 9) (t_ 41),none,false⟩])
 (.seq (r_ [q_ 42 (.load 10 true (t_ 7)),
 q_ 43 (.load 7 true (t_ 9)),
 q_ 44 (.call (.func 74) [(t_ 42),(t_ 43)]),
 m_ 5 44])
 (.seq (r_ [m_ 45 5,
 q_ 46 (.bin .neq 115 (t_ 45) (k_ 0))])
 (.cond (t_ 46)
 (.seq (r_ [m_ 47 8,
 m_ 48 5,
 m_ 4 47,
 m_ 5 48])
 (.ret))
 (.skip))))))
 (r_ [q_ 49 (.bin .add 3 (t_ 37) (k_ 1)),
 m_ 37 49])))
/-- patchbay/action.Check -/
def ac50:AC:=
 .seq (r_ [q_ 2 (.box false 31 (t_ 0)),
 q_ 4 (.move (k_ 0)),
 q_ 5 (.move (k_ 0))])
 (.seq (.seq (r_ (m_ 10 1::(q_ 11 (.bin .lss 3 (t_ 10) (k_ 0)))::m_ 12 11::(ac50_G1++[])))
 (.cond (t_ 18)
 (.seq (r_ [(q_ 4 (.move (.const (.int .i64 (-1))))),
 q_ 5 (.move (k_ 8))])
 (.ret))
 (.skip)))
 (.seq (r_ [f_ 19 4 2,
 l_ 20 19,
 m_ 21 1,
 q_ 22 (.iaddr 3 (t_ 20) (t_ 21)),
 q_ 23 (.load 3 true (t_ 22)),
 ⟨(some 6),.alloc true 49 (.agg [(.string ⟨[].toArray⟩),(.slice none 0 0),(.slice none 0 0)].toArray),none,false⟩,
 ⟨none,.store 3 (t_ 6) (t_ 23),none,false⟩])
 (.seq (.seq (r_ [q_ 24 (.load 3 true (t_ 6)),
 q_ 25 (.call (.func 73) [(t_ 24)]),
 m_ 5 25])
 (.seq (r_ [m_ 26 5,
 q_ 27 (.bin .neq 115 (t_ 26) (k_ 0))])
 (.cond (t_ 27)
 (.seq (r_ [m_ 28 5,
 (q_ 4 (.move (.const (.int .i64 (-1))))),
 m_ 5 28])
 (.ret))
 (.skip))))
 (.seq (r_ [q_ 29 (.load 9 true (t_ 2)),
 f_ 30 1 6,
 l_ 31 30,
 ⟨(some 32),.build [(.string ⟨[].toArray⟩),(.slice none 0 0),(.slice none 0 0),(.slice none 0 0),(.slice none 0 0),(.slice none 0 0),(.slice none 0 0),(.slice none 0 0),(.slice none 0 0),(.slice none 0 0)] [(0,9,(t_ 29)),(9,1,(t_ 31))],none,false⟩,
 ⟨(some 33),.build [(.string ⟨[].toArray⟩),(.slice none 0 0),(.slice none 0 0),(.slice none 0 0),(.slice none 0 0),(.slice none 0 0),(.slice none 0 0),(.slice none 0 0),(.slice none 0 0),(.slice none 0 0)] [(0,10,(t_ 32))],none,false⟩,
 ⟨(some 7),.alloc true 142 (.agg [(.string ⟨[].toArray⟩),(.slice none 0 0),(.slice none 0 0),(.slice none 0 0),(.slice none 0 0),(.slice none 0 0),(.slice none 0 0),(.slice none 0 0),(.slice none 0 0),(.slice none 0 0)].toArray),none,false⟩,
 ⟨none,.store 10 (t_ 7) (t_ 33),none,false⟩])
 (.seq (.seq (r_ [f_ 34 2 6,
 l_ 35 34,
 n_ 36 47 35,
 q_ 37 (.move (k_ 0))])
 (.block 0 (.loop ac50_L1)))
 (.seq (r_ [q_ 4 (.move (k_ 0)),
 q_ 5 (.move (k_ 0))])
 (.ret)))))))
theorem text50:FnText Try.prog 50 [6,7,9] 50 2 ac50 [(4,none),(5,none)]:=
 ⟨Try.call50,follows,Try.f50,_,Try.func50,rfl,rfl,by decide,by kernel_rfl,by kernel_rfl⟩
/-- patchbay/action.body -/
def ac39:AC:=
 .seq (r_ [q_ 2 (.box false 31 (t_ 0)),
 q_ 4 (.move z_)])
 (.seq (.seq (r_ [q_ 8 (.load 9 true (t_ 2)),
 m_ 9 1,
 q_ 10 (.call (.func 50) [(t_ 8),(t_ 9)]),
 m_ 7 10,
 q_ 11 (.extract (t_ 7) 0),
 q_ 12 (.extract (t_ 7) 1),
 m_ 5 11,
 m_ 6 12])
 (.seq (r_ [m_ 13 6,
 q_ 14 (.bin .neq 115 (t_ 13) (k_ 0))])
 (.cond (t_ 14)
 (.seq (r_ [q_ 4 (.move z_)])
 (.ret))
 (.skip))))
 (.seq (r_ [f_ 15 4 2,
 l_ 16 15,
 m_ 17 1,
 q_ 18 (.iaddr 3 (t_ 16) (t_ 17)),
 f_ 19 2 18,
 l_ 20 19,
 m_ 4 20])
 (.ret)))
theorem text39:FnText Try.prog 39 [] 21 2 ac39 [(4,none)]:=
 ⟨Try.call39,follows,Try.f39,_,Try.func39,rfl,rfl,by decide,by kernel_rfl,by kernel_rfl⟩
/-- (*patchbay/action.access).expression -/
def ac40:AC:=
 .seq (.region true [⟨(some 4),.move (t_ 0),none,true⟩,
 m_ 5 0,
 q_ 6 (.nilCheck (t_ 5)),
 f_ 7 0 6,
 l_ 8 7,
 m_ 9 1,
 q_ 10 (.call (.func 21) [(t_ 9)]),
 q_ 11 (.append 72 58 2 16 (t_ 8) (t_ 10)),
 q_ 12 (.nilCheck (t_ 4)),
 f_ 13 0 12,
 ⟨none,.store 1 (t_ 13) (t_ 11),none,false⟩])
 (.region true [⟨(some 14),.move (t_ 0),none,true⟩,
 m_ 15 0,
 q_ 16 (.nilCheck (t_ 15)),
 f_ 17 1 16,
 l_ 18 17,
 m_ 19 1,
 q_ 20 (.call (.func 22) [(t_ 19)]),
 q_ 21 (.append 29 3 1 8 (t_ 18) (t_ 20)),
 q_ 22 (.nilCheck (t_ 14)),
 f_ 23 1 22,
 ⟨none,.store 1 (t_ 23) (t_ 21),none,false⟩])
theorem text40:FnText Try.prog 40 [] 24 2 ac40 []:=
 ⟨Try.call40,follows,Try.f40,_,Try.func40,rfl,rfl,by decide,by kernel_rfl,by kernel_rfl⟩
/-- (*patchbay/action.access).sorted -/
def ac41:AC:=
 .seq (r_ [q_ 2 (.move z_),
 q_ 3 (.move z_),
 q_ 4 (.move z_)])
 (.seq (r_ [m_ 5 0,
 q_ 6 (.nilCheck (t_ 5)),
 f_ 7 0 6,
 l_ 8 7,
 q_ 9 (.call (.func 32) [(t_ 8),(.func 51)])])
 (.seq (r_ [m_ 10 0,
 q_ 11 (.nilCheck (t_ 10)),
 f_ 12 1 11,
 l_ 13 12,
 q_ 14 (.call (.func 37) [(t_ 13)])])
 (.seq (r_ [m_ 15 0,
 q_ 16 (.nilCheck (t_ 15)),
 f_ 17 2 16,
 l_ 18 17,
 q_ 19 (.call (.func 37) [(t_ 18)])])
 (.seq (.regionU [m_ 20 0,
 q_ 21 (.nilCheck (t_ 20)),
 f_ 22 0 21,
 l_ 23 22,
 q_ 24 (.call (.func 36) [(t_ 23)]),
 ⟨(some 25),.move (t_ 0),none,true⟩,
 ⟨(some 26),.nilCheck (t_ 25),none,true⟩,
 ⟨(some 27),.faddr 1 1 false (t_ 26),none,true⟩,
 ⟨(some 28),.load 1 false (t_ 27),none,true⟩,
 q_ 29 (.call (.func 38) [(t_ 28)]),
 ⟨(some 30),.move (t_ 0),none,true⟩,
 ⟨(some 31),.nilCheck (t_ 30),none,true⟩,
 ⟨(some 32),.faddr 2 1 false (t_ 31),none,true⟩,
 ⟨(some 33),.load 1 false (t_ 32),none,true⟩,
 q_ 34 (.call (.func 38) [(t_ 33)]),
 m_ 2 24,
 m_ 3 29,
 m_ 4 34])
 (.ret)))))
theorem text41:FnText Try.prog 41 [1000000] 35 1 ac41 [(2,none),(3,none),(4,none)]:=
 ⟨Try.call41,follows,Try.f41,_,Try.func41,rfl,rfl,by decide,by kernel_rfl,by kernel_rfl⟩
def ac25_G1:List AOper:=
 [⟨(some 58),.faddr 0 1 false (t_ 9),(some (57,false)),false⟩,
 ⟨(some 59),.load 1 false (t_ 58),(some (57,false)),false⟩,
 ⟨(some 60),.bin .eql 3 (t_ 59) (k_ 4),(some (57,false)),false⟩,
 (q_ 61 (.pick (t_ 57) (.const (.bool true)) (t_ 60)))]
def ac25_G2:List AOper:=
 [⟨(some 63),.faddr 1 2 true (t_ 9),(some (62,true)),false⟩,
 ⟨(some 64),.faddr 0 1 false (t_ 63),(some (62,true)),false⟩,
 ⟨(some 65),.load 1 false (t_ 64),(some (62,true)),false⟩,
 ⟨(some 66),.bin .neq 3 (t_ 65) (.const (.int .i64 (-1))),(some (62,true)),false⟩,
 (q_ 67 (.pick (t_ 62) (t_ 66) (.const (.bool false))))]
def ac25_L1:AC:=
 .seq (r_ [q_ 15 (.bin .lss 3 (t_ 14) (t_ 13))])
 (.seq (.cond (t_ 15)
 (.skip)
 (.exit 0))
 (.seq (.block 1 (.seq (r_ [q_ 16 (.iaddr 7 (t_ 12) (t_ 14)),
 q_ 17 (.load 7 true (t_ 16)),
 (q_ 9 (.alloc true 87 (.agg [(.int .i64 0),(.int .i64 0),(.int .i64 0),(.int .i64 0),(.int .i64 0),(.slice none 0 0),(.slice none 0 0)].toArray))),
 ⟨none,.store 7 (t_ 9) (t_ 17),none,false⟩])
 (.seq (.seq (r_ [f_ 18 0 9,
 l_ 19 18])
 (.block 2 (.seq (r_ [q_ 21 (.bin .eql 3 (t_ 19) (k_ 1)),
 m_ 20 21])
 (.cond (t_ 20)
 (r_ [f_ 22 6 9,
 l_ 23 22,
 q_ 24 (.call (.func 40) [(t_ 7),(t_ 23)])])
 (.seq (r_ [q_ 26 (.bin .eql 3 (t_ 19) (k_ 2)),
 m_ 25 26])
 (.cond (t_ 25)
 (r_ [f_ 27 1 7,
 l_ 28 27,
 f_ 29 4 9,
 l_ 30 29,
 q_ 31 (.bslice false 3 1 false [(t_ 30)]),
 q_ 32 (.append 29 3 1 8 (t_ 28) (t_ 31)),
 f_ 33 1 7,
 ⟨none,.store 1 (t_ 33) (t_ 32),none,false⟩])
 (.seq (r_ [q_ 35 (.bin .eql 3 (t_ 19) (k_ 4)),
 m_ 34 35])
 (.cond (t_ 34)
 (.seq (r_ [f_ 36 5 9,
 l_ 37 36,
 q_ 38 (.call (.func 40) [(t_ 7),(t_ 37)])])
 (r_ [f_ 39 2 7,
 l_ 40 39,
 f_ 41 3 9,
 l_ 42 41,
 q_ 43 (.bslice false 3 1 false [(t_ 42)]),
 q_ 44 (.append 29 3 1 8 (t_ 40) (t_ 43)),
 f_ 45 2 7,
 ⟨none,.store 1 (t_ 45) (t_ 44),none,false⟩]))
 (.seq (r_ [q_ 47 (.bin .eql 3 (t_ 19) (k_ 5)),
 m_ 46 47])
 (.cond (t_ 46)
 (.seq (r_ [f_ 48 5 9,
 l_ 49 48,
 q_ 50 (.call (.func 40) [(t_ 7),(t_ 49)])])
 (r_ [f_ 51 6 9,
 l_ 52 51,
 q_ 53 (.call (.func 40) [(t_ 7),(t_ 52)])]))
 (.skip)))))))))))
 (.seq (r_ (f_ 54 0 9::l_ 55 54::(q_ 56 (.bin .eql 3 (t_ 55) (k_ 1)))::m_ 57 56::(ac25_G1++(m_ 62 61::(ac25_G2++[])))))
 (.cond (t_ 67)
 (r_ [f_ 68 1 7,
 l_ 69 68,
 q_ 70 (.faddr 1 2 true (t_ 9)),
 f_ 71 0 70,
 l_ 72 71,
 q_ 73 (.bslice false 3 1 false [(t_ 72)]),
 q_ 74 (.append 29 3 1 8 (t_ 69) (t_ 73)),
 f_ 75 1 7,
 ⟨none,.store 1 (t_ 75) (t_ 74),none,false⟩])
 (.skip))))))
 (r_ [q_ 76 (.bin .add 3 (t_ 14) (k_ 1)),
 m_ 14 76])))
/-- patchbay/action.Reads -/
def ac25:AC:=
 .seq (r_ [q_ 2 (.box false 31 (t_ 0)),
 q_ 4 (.move z_),
 q_ 5 (.move z_),
 q_ 6 (.move z_)])
 (.seq (r_ [(q_ 7 (.alloc true 100 (.agg [(.slice none 0 0),(.slice none 0 0),(.slice none 0 0)].toArray)))])
 (.seq (.seq (r_ [q_ 10 (.load 9 true (t_ 2)),
 m_ 11 1,
 q_ 12 (.call (.func 39) [(t_ 10),(t_ 11)]),
 n_ 13 47 12,
 q_ 14 (.move (k_ 0))])
 (.block 0 (.loop ac25_L1)))
 (.seq (r_ [q_ 77 (.call (.func 41) [(t_ 7)]),
 q_ 78 (.extract (t_ 77) 0),
 q_ 79 (.extract (t_ 77) 1),
 q_ 80 (.extract (t_ 77) 2),
 m_ 4 78,
 m_ 5 79,
 m_ 6 80])
 (.ret))))
theorem text25:FnText Try.prog 25 [7,9] 81 2 ac25 [(4,none),(5,none),(6,none)]:=
 ⟨Try.call25,follows,Try.f25,_,Try.func25,rfl,rfl,by decide,by kernel_rfl,by kernel_rfl⟩
def ac7_L1:AC:=
 .seq (r_ [q_ 40 (.bin .lss 3 (t_ 39) (t_ 38))])
 (.seq (.cond (t_ 40)
 (.skip)
 (.exit 0))
 (.seq (.block 1 (.seq (r_ [q_ 41 (.iaddr 3 (t_ 37) (t_ 39)),
 q_ 42 (.load 3 true (t_ 41)),
 (q_ 9 (.alloc true 79 (.agg [(.int .i64 0),(.int .i64 0),(.int .i64 0)].toArray))),
 ⟨none,.store 3 (t_ 9) (t_ 42),none,false⟩])
 (r_ [m_ 43 5,
 q_ 44 (.faddr 0 2 true (t_ 9)),
 q_ 45 (.load 2 true (t_ 44)),
 q_ 46 (.bslice false 58 2 false [(t_ 45)]),
 q_ 47 (.call (.func 20) [(t_ 43),(t_ 46),z_,z_])])))
 (r_ [q_ 48 (.bin .add 3 (t_ 39) (k_ 1)),
 m_ 39 48])))
def ac7_L2:AC:=
 .seq (r_ [q_ 53 (.bin .lss 3 (t_ 52) (t_ 51))])
 (.seq (.cond (t_ 53)
 (.skip)
 (.exit 2))
 (.seq (.block 3 (.seq (r_ [q_ 54 (.iaddr 1 (t_ 50) (t_ 52)),
 l_ 55 54,
 m_ 11 55])
 (r_ [m_ 56 5,
 q_ 57 (.load 9 true (t_ 2)),
 m_ 58 11,
 q_ 59 (.call (.func 25) [(t_ 57),(t_ 58)]),
 q_ 60 (.extract (t_ 59) 0),
 q_ 61 (.extract (t_ 59) 1),
 q_ 62 (.extract (t_ 59) 2),
 q_ 63 (.call (.func 20) [(t_ 56),(t_ 60),(t_ 61),(t_ 62)])])))
 (r_ [q_ 64 (.bin .add 3 (t_ 52) (k_ 1)),
 m_ 52 64])))
/-- patchbay/access.Reads -/
def ac7:AC:=
 .seq (r_ [q_ 2 (.box false 31 (t_ 0)),
 q_ 3 (.box false 35 (t_ 1)),
 q_ 4 (.move z_)])
 (.seq (r_ [q_ 12 (.load 9 true (t_ 2)),
 ⟨(some 13),.build [(.string ⟨[].toArray⟩),(.slice none 0 0),(.slice none 0 0),(.slice none 0 0),(.slice none 0 0),(.slice none 0 0),(.slice none 0 0),(.slice none 0 0),(.slice none 0 0),(.slice none 0 0)] [(0,9,(t_ 12))],none,false⟩,
 q_ 14 (.box true 70 (t_ 13)),
 m_ 5 14])
 (.seq (.seq (r_ [f_ 15 0 3,
 l_ 16 15,
 (q_ 17 (.bin .eql 3 (t_ 16) (.const (.int .i64 (-1)))))])
 (.cond (t_ 17)
 (.seq (.regionT [m_ 18 5,
 f_ 19 1 3,
 l_ 20 19,
 q_ 21 (.call (.func 21) [(t_ 20)]),
 f_ 22 1 3,
 l_ 23 22,
 q_ 24 (.call (.func 22) [(t_ 23)])] (q_ 25 (.call (.func 20) [(t_ 18),(t_ 21),(t_ 24),z_])))
 (.seq (r_ [m_ 26 5,
 q_ 27 (.call (.func 23) [(t_ 26)]),
 m_ 4 27])
 (.ret)))
 (.skip)))
 (.seq (r_ [q_ 29 (.load 9 true (t_ 2)),
 q_ 30 (.load 3 true (t_ 3)),
 q_ 31 (.call (.func 24) [(t_ 29),(t_ 30)]),
 m_ 28 31,
 q_ 32 (.extract (t_ 28) 0),
 q_ 33 (.extract (t_ 28) 1),
 ⟨(some 6),.alloc true 55 (.agg [(.string ⟨[].toArray⟩),(.slice none 0 0),(.slice none 0 0),(.int .i64 0),(.slice none 0 0),(.int .i64 0)].toArray),none,false⟩,
 ⟨none,.store 6 (t_ 6) (t_ 32),none,false⟩,
 m_ 7 33])
 (.seq (.seq (r_ [m_ 34 7,
 q_ 35 (.un .not (t_ 34))])
 (.cond (t_ 35)
 (.seq (r_ [q_ 4 (.move z_)])
 (.ret))
 (.skip)))
 (.seq (.seq (r_ [f_ 36 1 6,
 l_ 37 36,
 n_ 38 50 37,
 q_ 39 (.move (k_ 0))])
 (.block 0 (.loop ac7_L1)))
 (.seq (.seq (r_ [f_ 49 2 6,
 l_ 50 49,
 n_ 51 29 50,
 q_ 52 (.move (k_ 0))])
 (.block 2 (.loop ac7_L2)))
 (.seq (r_ [m_ 65 5,
 q_ 66 (.call (.func 23) [(t_ 65)]),
 m_ 4 66])
 (.ret))))))))
theorem text7:FnText Try.prog 7 [14,6,9] 67 2 ac7 [(4,none)]:=
 ⟨Try.call7,follows,Try.f7,_,Try.func7,rfl,rfl,by decide,by kernel_rfl,by kernel_rfl⟩
/-- patchbay/access.Cells -/
def ac8:AC:=
 .seq (r_ [q_ 1 (.box false 31 (t_ 0)),
 q_ 2 (.move (k_ 0))])
 (.seq (r_ [q_ 3 (.load 9 true (t_ 1)),
 q_ 4 (.call (.func 26) [(t_ 3),(k_ 4)]),
 m_ 2 4])
 (.ret))
theorem text8:FnText Try.prog 8 [] 5 1 ac8 [(2,none)]:=
 ⟨Try.call8,follows,Try.f8,_,Try.func8,rfl,rfl,by decide,by kernel_rfl,by kernel_rfl⟩
def ac6_G1:List AOper:=
 [⟨(some 18),.move (t_ 0),(some (17,false)),false⟩,
 ⟨(some 19),.move (t_ 5),(some (17,false)),false⟩,
 ⟨(some 20),.iaddr 1 (t_ 18) (t_ 19),(some (17,false)),false⟩,
 ⟨(some 21),.load 1 false (t_ 20),(some (17,false)),false⟩,
 ⟨(some 22),.move (t_ 1),(some (17,false)),false⟩,
 ⟨(some 23),.bin .geq 3 (t_ 21) (t_ 22),(some (17,false)),false⟩,
 (q_ 24 (.pick (t_ 17) (.const (.bool true)) (t_ 23)))]
def ac6_G3:List AOper:=
 [⟨(some 29),.move (t_ 0),(some (28,true)),false⟩,
 ⟨(some 30),.move (t_ 5),(some (28,true)),false⟩,
 ⟨(some 31),.iaddr 1 (t_ 29) (t_ 30),(some (28,true)),false⟩,
 ⟨(some 32),.load 1 false (t_ 31),(some (28,true)),false⟩,
 ⟨(some 33),.move (t_ 0),(some (28,true)),false⟩,
 ⟨(some 34),.move (t_ 5),(some (28,true)),false⟩,
 ⟨(some 35),.bin .sub 3 (t_ 34) (k_ 1),(some (28,true)),false⟩,
 ⟨(some 36),.iaddr 1 (t_ 33) (t_ 35),(some (28,true)),false⟩,
 ⟨(some 37),.load 1 false (t_ 36),(some (28,true)),false⟩,
 ⟨(some 38),.bin .leq 3 (t_ 32) (t_ 37),(some (28,true)),false⟩,
 ⟨(some 39),.pick (t_ 28) (t_ 38) (.const (.bool false)),(some (25,false)),false⟩]
def ac6_G2:List AOper:=
 (⟨(some 26),.move (t_ 5),(some (25,false)),false⟩::⟨(some 27),.bin .gtr 3 (t_ 26) (k_ 0),(some (25,false)),false⟩::⟨(some 28),.move (t_ 27),(some (25,false)),false⟩::(ac6_G3++[(q_ 40 (.pick (t_ 25) (.const (.bool true)) (t_ 39)))]))
def ac6_L1:AC:=
 .seq (.seq (r_ [m_ 6 5,
 m_ 7 0,
 n_ 8 29 7,
 q_ 9 (.bin .lss 3 (t_ 6) (t_ 8))])
 (.cond (t_ 9)
 (.skip)
 (.exit 0)))
 (.seq (.block 1 (.seq (.region true (m_ 12 0::m_ 13 5::(q_ 14 (.iaddr 1 (t_ 12) (t_ 13)))::l_ 15 14::(q_ 16 (.bin .lss 3 (t_ 15) (k_ 0)))::m_ 17 16::(ac6_G1++(m_ 25 24::(ac6_G2++[])))))
 (.cond (t_ 40)
 (.seq (r_ [(q_ 4 (.move (.const (.bool false))))])
 (.ret))
 (.skip))))
 (r_ [m_ 10 5,
 q_ 11 (.bin .add 3 (t_ 10) (k_ 1)),
 m_ 5 11]))
/-- patchbay/patchbaylaw31.sorted -/
def ac6:AC:=
 .seq (r_ [(q_ 4 (.move (.const (.bool false))))])
 (.seq (.seq (r_ [q_ 5 (.move (k_ 0))])
 (.block 0 (.loop ac6_L1)))
 (.seq (r_ [(q_ 4 (.move (.const (.bool true))))])
 (.ret)))
theorem text6:FnText Try.prog 6 [] 41 2 ac6 [(4,none)]:=
 ⟨Try.call6,follows,Try.f6,_,Try.func6,rfl,rfl,by decide,by kernel_rfl,by kernel_rfl⟩
def ac27_L2:AC:=
 .seq (r_ [q_ 50 (.bin .lss 3 (t_ 49) (t_ 48))])
 (.seq (.cond (t_ 50)
 (.skip)
 (.exit 3))
 (.seq (.block 4 (.seq (r_ [m_ 51 49,
 m_ 10 51])
 (r_ [f_ 52 0 7,
 l_ 53 52,
 f_ 54 4 9,
 l_ 55 54,
 m_ 56 10,
 (q_ 57 (.build [(.int .i64 0),(.int .i64 0)] [(0,1,(t_ 55)),(1,1,(t_ 56))])),
 q_ 58 (.bslice false 58 2 false [(t_ 57)]),
 q_ 59 (.append 72 58 2 16 (t_ 53) (t_ 58)),
 f_ 60 0 7,
 ⟨none,.store 1 (t_ 60) (t_ 59),none,false⟩])))
 (r_ [q_ 61 (.bin .add 3 (t_ 49) (k_ 1)),
 m_ 49 61])))
def ac27_L1:AC:=
 .seq (r_ [q_ 16 (.bin .lss 3 (t_ 15) (t_ 14))])
 (.seq (.cond (t_ 16)
 (.skip)
 (.exit 0))
 (.seq (.block 1 (.seq (r_ [q_ 17 (.iaddr 7 (t_ 13) (t_ 15)),
 q_ 18 (.load 7 true (t_ 17)),
 (q_ 9 (.alloc true 87 (.agg [(.int .i64 0),(.int .i64 0),(.int .i64 0),(.int .i64 0),(.int .i64 0),(.slice none 0 0),(.slice none 0 0)].toArray))),
 ⟨none,.store 7 (t_ 9) (t_ 18),none,false⟩])
 (.seq (r_ [f_ 19 0 9,
 l_ 20 19])
 (.block 2 (.seq (.seq (r_ [q_ 22 (.bin .eql 3 (t_ 20) (k_ 1)),
 m_ 21 22])
 (.cond (t_ 21)
 (.skip)
 (r_ [q_ 23 (.bin .eql 3 (t_ 20) (k_ 4)),
 m_ 21 23])))
 (.cond (t_ 21)
 (r_ [f_ 24 0 7,
 l_ 25 24,
 q_ 26 (.faddr 1 2 true (t_ 9)),
 q_ 27 (.load 2 true (t_ 26)),
 q_ 28 (.bslice false 58 2 false [(t_ 27)]),
 q_ 29 (.append 72 58 2 16 (t_ 25) (t_ 28)),
 f_ 30 0 7,
 ⟨none,.store 1 (t_ 30) (t_ 29),none,false⟩])
 (.seq (.seq (r_ [q_ 32 (.bin .eql 3 (t_ 20) (k_ 2)),
 m_ 31 32])
 (.cond (t_ 31)
 (.skip)
 (r_ [q_ 33 (.bin .eql 3 (t_ 20) (k_ 3)),
 m_ 31 33])))
 (.cond (t_ 31)
 (.seq (r_ [f_ 34 1 7,
 l_ 35 34,
 f_ 36 4 9,
 l_ 37 36,
 q_ 38 (.bslice false 3 1 false [(t_ 37)]),
 q_ 39 (.append 29 3 1 8 (t_ 35) (t_ 38)),
 f_ 40 1 7,
 ⟨none,.store 1 (t_ 40) (t_ 39),none,false⟩])
 (.seq (r_ [f_ 41 1 2,
 l_ 42 41,
 f_ 43 4 9,
 l_ 44 43,
 q_ 45 (.iaddr 2 (t_ 42) (t_ 44)),
 f_ 46 1 45,
 l_ 47 46,
 n_ 48 23 47,
 q_ 49 (.move (k_ 0))])
 (.block 3 (.loop ac27_L2))))
 (.seq (r_ [q_ 63 (.bin .eql 3 (t_ 20) (k_ 5)),
 m_ 62 63])
 (.cond (t_ 62)
 (r_ [f_ 64 2 7,
 l_ 65 64,
 f_ 66 3 9,
 l_ 67 66,
 q_ 68 (.bslice false 3 1 false [(t_ 67)]),
 q_ 69 (.append 29 3 1 8 (t_ 65) (t_ 68)),
 f_ 70 2 7,
 ⟨none,.store 1 (t_ 70) (t_ 69),none,false⟩])
 (.skip)))))))))))
 (r_ [q_ 71 (.bin .add 3 (t_ 15) (k_ 1)),
 m_ 15 71])))
/-- patchbay/action.Writes -/
def ac27:AC:=
 .seq (r_ [q_ 2 (.box false 31 (t_ 0)),
 q_ 4 (.move z_),
 q_ 5 (.move z_),
 q_ 6 (.move z_)])
 (.seq (r_ [(q_ 7 (.alloc true 100 (.agg [(.slice none 0 0),(.slice none 0 0),(.slice none 0 0)].toArray)))])
 (.seq (.seq (r_ [q_ 11 (.load 9 true (t_ 2)),
 m_ 12 1,
 q_ 13 (.call (.func 39) [(t_ 11),(t_ 12)]),
 n_ 14 47 13,
 q_ 15 (.move (k_ 0))])
 (.block 0 (.loop ac27_L1)))
 (.seq (r_ [q_ 72 (.call (.func 41) [(t_ 7)]),
 q_ 73 (.extract (t_ 72) 0),
 q_ 74 (.extract (t_ 72) 1),
 q_ 75 (.extract (t_ 72) 2),
 m_ 4 73,
 m_ 5 74,
 m_ 6 75])
 (.ret))))
theorem text27:FnText Try.prog 27 [7,9] 76 2 ac27 [(4,none),(5,none),(6,none)]:=
 ⟨Try.call27,follows,Try.f27,_,Try.func27,rfl,rfl,by decide,by kernel_rfl,by kernel_rfl⟩
def ac9_L1:AC:=
 .seq (r_ [q_ 25 (.bin .lss 3 (t_ 24) (t_ 23))])
 (.seq (.cond (t_ 25)
 (.skip)
 (.exit 0))
 (.seq (.block 1 (.seq (r_ [q_ 26 (.iaddr 1 (t_ 22) (t_ 24)),
 l_ 27 26,
 m_ 9 27])
 (r_ [m_ 28 7,
 q_ 29 (.load 9 true (t_ 2)),
 m_ 30 9,
 q_ 31 (.call (.func 27) [(t_ 29),(t_ 30)]),
 q_ 32 (.extract (t_ 31) 0),
 q_ 33 (.extract (t_ 31) 1),
 q_ 34 (.extract (t_ 31) 2),
 q_ 35 (.call (.func 20) [(t_ 28),(t_ 32),(t_ 33),(t_ 34)])])))
 (r_ [q_ 36 (.bin .add 3 (t_ 24) (k_ 1)),
 m_ 24 36])))
/-- patchbay/access.Writes -/
def ac9:AC:=
 .seq (r_ [q_ 2 (.box false 31 (t_ 0)),
 q_ 3 (.box false 35 (t_ 1)),
 q_ 4 (.move z_)])
 (.seq (r_ [q_ 11 (.load 9 true (t_ 2)),
 q_ 12 (.load 3 true (t_ 3)),
 q_ 13 (.call (.func 24) [(t_ 11),(t_ 12)]),
 m_ 10 13,
 q_ 14 (.extract (t_ 10) 0),
 q_ 15 (.extract (t_ 10) 1),
 ⟨(some 5),.alloc true 55 (.agg [(.string ⟨[].toArray⟩),(.slice none 0 0),(.slice none 0 0),(.int .i64 0),(.slice none 0 0),(.int .i64 0)].toArray),none,false⟩,
 ⟨none,.store 6 (t_ 5) (t_ 14),none,false⟩,
 m_ 6 15])
 (.seq (.seq (r_ [m_ 16 6,
 q_ 17 (.un .not (t_ 16))])
 (.cond (t_ 17)
 (.seq (r_ [q_ 4 (.move z_)])
 (.ret))
 (.skip)))
 (.seq (r_ [q_ 18 (.load 9 true (t_ 2)),
 ⟨(some 19),.build [(.string ⟨[].toArray⟩),(.slice none 0 0),(.slice none 0 0),(.slice none 0 0),(.slice none 0 0),(.slice none 0 0),(.slice none 0 0),(.slice none 0 0),(.slice none 0 0),(.slice none 0 0)] [(0,9,(t_ 18))],none,false⟩,
 q_ 20 (.box true 70 (t_ 19)),
 m_ 7 20])
 (.seq (.seq (r_ [f_ 21 2 5,
 l_ 22 21,
 n_ 23 29 22,
 q_ 24 (.move (k_ 0))])
 (.block 0 (.loop ac9_L1)))
 (.seq (r_ [m_ 37 7,
 q_ 38 (.call (.func 23) [(t_ 37)]),
 m_ 4 38])
 (.ret))))))
theorem text9:FnText Try.prog 9 [5,20] 39 2 ac9 [(4,none)]:=
 ⟨Try.call9,follows,Try.f9,_,Try.func9,rfl,rfl,by decide,by kernel_rfl,by kernel_rfl⟩
def ac3_G1:List AOper:=
 [⟨(some 8),.faddr 1 1 false (t_ 3),(some (7,false)),false⟩,
 ⟨(some 9),.load 1 false (t_ 8),(some (7,false)),false⟩,
 ⟨(some 10),.bi .len [32].toArray 3 [(t_ 9)],(some (7,false)),false⟩,
 ⟨(some 11),.bin .gtr 3 (t_ 10) (k_ 60),(some (7,false)),false⟩,
 (q_ 12 (.pick (t_ 7) (.const (.bool true)) (t_ 11)))]
def ac3_G2:List AOper:=
 [⟨(some 21),.load 9 true (t_ 2),(some (20,true)),false⟩,
 ⟨(some 22),.load 3 true (t_ 3),(some (20,true)),false⟩,
 ⟨(some 23),.call (.func 9) [(t_ 21),(t_ 22)],(some (20,true)),false⟩,
 ⟨(some 24),.load 9 true (t_ 2),(some (20,true)),false⟩,
 ⟨(some 25),.call (.func 8) [(t_ 24)],(some (20,true)),false⟩,
 ⟨(some 26),.call (.func 6) [(t_ 23),(t_ 25)],(some (20,true)),false⟩,
 (q_ 27 (.pick (t_ 20) (t_ 26) (.const (.bool false))))]
def ac3_G3:List AOper:=
 [⟨(some 29),.call (.func 5) [],(some (28,true)),false⟩,
 (q_ 30 (.pick (t_ 28) (t_ 29) (.const (.bool false))))]
/-- patchbay/patchbaylaw31.AccessSorted -/
def ac3:AC:=
 .seq (r_ [q_ 2 (.box false 31 (t_ 0)),
 q_ 3 (.box false 35 (t_ 1)),
 (q_ 4 (.move (.const (.bool false))))])
 (.seq (.seq (r_ ((q_ 5 (.load 9 true (t_ 2)))::(q_ 6 (.call (.func 4) [(t_ 5)]))::m_ 7 6::(ac3_G1++[])))
 (.cond (t_ 12)
 (.seq (r_ [q_ 13 (.call (.func 5) []),
 m_ 4 13])
 (.ret))
 (.skip)))
 (.seq (.region true ((q_ 14 (.load 9 true (t_ 2)))::(q_ 15 (.load 3 true (t_ 3)))::(q_ 16 (.call (.func 7) [(t_ 14),(t_ 15)]))::(q_ 17 (.load 9 true (t_ 2)))::(q_ 18 (.call (.func 8) [(t_ 17)]))::(q_ 19 (.call (.func 6) [(t_ 16),(t_ 18)]))::m_ 20 19::(ac3_G2++(m_ 28 27::(ac3_G3++[m_ 4 30])))))
 (.ret)))
theorem text3:FnText Try.prog 3 [] 31 2 ac3 [(4,none)]:=
 ⟨Try.call3,follows,Try.f3,_,Try.func3,rfl,rfl,by decide,by kernel_rfl,by kernel_rfl⟩
/-- patchbay/patchbaylaw31.example -/
def ac14:AC:=
 .seq (r_ [⟨(some 0),.alloc true 31 (.agg [(.string ⟨[].toArray⟩),(.slice none 0 0),(.slice none 0 0),(.slice none 0 0),(.slice none 0 0),(.slice none 0 0),(.slice none 0 0),(.slice none 0 0),(.slice none 0 0)].toArray),none,false⟩])
 (.seq (r_ [q_ 4 (.call (.func 28) []),
 ⟨(some 1),.alloc true 31 (.agg [(.string ⟨[].toArray⟩),(.slice none 0 0),(.slice none 0 0),(.slice none 0 0),(.slice none 0 0),(.slice none 0 0),(.slice none 0 0),(.slice none 0 0),(.slice none 0 0)].toArray),none,false⟩,
 ⟨none,.store 9 (t_ 1) (t_ 4),none,false⟩])
 (.seq (r_ [⟨(some 5),.build [(.string ⟨[].toArray⟩),(.int .i64 0)] [(0,1,(.const (.string ⟨[97].toArray⟩))),(1,1,(k_ 8))],none,false⟩,
 ⟨(some 2),.alloc true 85 (.agg [(.string ⟨[].toArray⟩),(.int .i64 0)].toArray),none,false⟩,
 ⟨none,.store 2 (t_ 2) (t_ 5),none,false⟩])
 (.seq (r_ [q_ 6 (.load 2 true (t_ 2)),
 q_ 7 (.bslice false 85 2 false [(t_ 6)]),
 ⟨(some 8),.build [(.string ⟨[].toArray⟩),(.slice none 0 0)] [(0,1,(.const (.string ⟨[103].toArray⟩))),(1,1,(t_ 7))],none,false⟩,
 q_ 9 (.load 2 true (t_ 2)),
 ⟨(some 10),.build [(.string ⟨[].toArray⟩),(.int .i64 0)] [(0,1,(.const (.string ⟨[98].toArray⟩))),(1,1,(k_ 4))],none,false⟩,
 q_ 11 (.bslice false 85 2 false [(t_ 9),(t_ 10)]),
 ⟨(some 12),.build [(.string ⟨[].toArray⟩),(.slice none 0 0)] [(0,1,(.const (.string ⟨[104].toArray⟩))),(1,1,(t_ 11))],none,false⟩,
 q_ 13 (.bslice false 45 2 false [(t_ 8),(t_ 12)]),
 f_ 14 1 1,
 ⟨none,.store 1 (t_ 14) (t_ 13),none,false⟩])
 (.seq (r_ [⟨(some 15),.build [(.string ⟨[].toArray⟩),(.int .i64 0),(.int .i64 0)] [(0,1,(.const (.string ⟨[114].toArray⟩))),(1,1,(k_ 8)),(2,1,(k_ 1))],none,false⟩,
 q_ 16 (.bslice false 89 3 false [(t_ 15)]),
 f_ 17 3 1,
 ⟨none,.store 1 (t_ 17) (t_ 16),none,false⟩])
 (.seq (r_ [(q_ 18 (.build [(.int .i64 0),(.int .i64 0)] [(0,1,(k_ 1)),(1,1,(k_ 1))])),
 (q_ 19 (.build [(.int .i64 0),(.int .i64 0),(.int .i64 0)] [(0,1,(k_ 1)),(1,1,(k_ 3)),(2,1,(k_ 4))])),
 q_ 20 (.bslice false 64 3 false [(t_ 19)]),
 (q_ 21 (.build [(.int .i64 0),(.int .i64 0),(.int .i64 0),(.int .i64 0),(.int .i64 0),(.slice none 0 0),(.slice none 0 0)] [(0,1,(k_ 1)),(1,2,(t_ 18)),(6,1,(t_ 20))])),
 (q_ 3 (.alloc true 87 (.agg [(.int .i64 0),(.int .i64 0),(.int .i64 0),(.int .i64 0),(.int .i64 0),(.slice none 0 0),(.slice none 0 0)].toArray))),
 ⟨none,.store 7 (t_ 3) (t_ 21),none,false⟩])
 (.seq (r_ [q_ 22 (.load 7 true (t_ 3)),
 q_ 23 (.bslice false 87 7 false [(t_ 22)]),
 ⟨(some 24),.build [(.string ⟨[].toArray⟩),(.slice none 0 0),(.slice none 0 0)] [(0,1,(.const (.string ⟨[120].toArray⟩))),(2,1,(t_ 23))],none,false⟩,
 q_ 25 (.bslice false 49 3 false [(t_ 24)]),
 f_ 26 4 1,
 ⟨none,.store 1 (t_ 26) (t_ 25),none,false⟩])
 (.seq (r_ [(q_ 27 (.build [(.int .i64 0),(.int .i64 0)] [(0,1,(.const (.int .i64 (-1))))])),
 (q_ 28 (.build [(.int .i64 0),(.int .i64 0),(.int .i64 0)] [(0,2,(t_ 27)),(2,1,(k_ 1))])),
 q_ 29 (.bslice false 79 3 false [(t_ 28)]),
 q_ 30 (.bslice false 3 1 false [(k_ 0)]),
 ⟨(some 31),.build [(.string ⟨[].toArray⟩),(.slice none 0 0),(.slice none 0 0),(.int .i64 0),(.slice none 0 0),(.int .i64 0)] [(0,1,(.const (.string ⟨[116].toArray⟩))),(1,1,(t_ 29)),(2,1,(t_ 30)),(5,1,(k_ 1))],none,false⟩,
 q_ 32 (.bslice false 55 6 false [(t_ 31)]),
 f_ 33 5 1,
 ⟨none,.store 1 (t_ 33) (t_ 32),none,false⟩])
 (.seq (r_ [q_ 34 (.load 9 true (t_ 1)),
 ⟨none,.store 9 (t_ 0) (t_ 34),none,false⟩])
 (.ret)))))))))
theorem text14:FnText Try.prog 14 [0,1,2,3] 35 0 ac14 [(0,some (9,true))]:=
 ⟨Try.call14,follows,Try.f14,_,Try.func14,rfl,rfl,by decide,by kernel_rfl,by kernel_rfl⟩
/-- patchbay/patchbaylaw21.Plain -/
def ac28:AC:=
 .seq (r_ [⟨(some 0),.alloc true 31 (.agg [(.string ⟨[].toArray⟩),(.slice none 0 0),(.slice none 0 0),(.slice none 0 0),(.slice none 0 0),(.slice none 0 0),(.slice none 0 0),(.slice none 0 0),(.slice none 0 0)].toArray),none,false⟩])
 (.seq (r_ [⟨(some 1),.build [(.string ⟨[].toArray⟩),(.int .i64 0)] [(0,1,(.const (.string ⟨[105,110].toArray⟩))),(1,1,(k_ 8))],none,false⟩,
 ⟨(some 2),.build [(.string ⟨[].toArray⟩),(.int .i64 0)] [(0,1,(.const (.string ⟨[111,117,116].toArray⟩))),(1,1,(k_ 8))],none,false⟩,
 ⟨(some 3),.build [(.string ⟨[].toArray⟩),(.int .i64 0)] [(0,1,(.const (.string ⟨[100,114,111,112].toArray⟩))),(1,1,(k_ 1))],none,false⟩,
 q_ 4 (.bslice false 85 2 false [(t_ 1),(t_ 2),(t_ 3)]),
 ⟨(some 5),.build [(.string ⟨[].toArray⟩),(.slice none 0 0),(.bool false),(.int .i64 0),(.int .i64 0),(.slice none 0 0),(.int .i64 0)] [(0,1,(.const (.string ⟨[115].toArray⟩))),(6,1,(.const (.int .i64 (-1))))],none,false⟩,
 q_ 6 (.bslice false 61 7 false [(t_ 5)]),
 ⟨(some 7),.build [(.string ⟨[].toArray⟩),(.slice none 0 0),(.slice none 0 0),(.slice none 0 0),(.slice none 0 0),(.slice none 0 0),(.slice none 0 0),(.slice none 0 0),(.slice none 0 0)] [(0,1,(.const (.string ⟨[112].toArray⟩))),(2,1,(t_ 4)),(6,1,(t_ 6))],none,false⟩,
 ⟨none,.store 9 (t_ 0) (t_ 7),none,false⟩])
 (.ret))
theorem text28:FnText Try.prog 28 [0] 8 0 ac28 [(0,some (9,true))]:=
 ⟨Try.call28,follows,Try.f28,_,Try.func28,rfl,rfl,by decide,by kernel_rfl,by kernel_rfl⟩
def ac18_G1:List AOper:=
 [⟨(some 10),.move (t_ 1),(some (9,false)),false⟩,
 ⟨(some 11),.load 9 true (t_ 2),(some (9,false)),false⟩,
 ⟨(some 12),.call (.func 26) [(t_ 11),(k_ 3)],(some (9,false)),false⟩,
 ⟨(some 13),.bin .geq 3 (t_ 10) (t_ 12),(some (9,false)),false⟩,
 (q_ 14 (.pick (t_ 9) (.const (.bool true)) (t_ 13)))]
def ac18_L1:AC:=
 .seq (r_ [q_ 34 (.bin .lss 3 (t_ 33) (t_ 32))])
 (.seq (.cond (t_ 34)
 (.skip)
 (.exit 0))
 (.seq (.block 1 (.seq (r_ [m_ 35 33,
 q_ 36 (.iaddr 2 (t_ 31) (t_ 33)),
 q_ 37 (.load 2 true (t_ 36)),
 ⟨(some 6),.alloc true 45 (.agg [(.string ⟨[].toArray⟩),(.slice none 0 0)].toArray),none,false⟩,
 m_ 5 35,
 ⟨none,.store 2 (t_ 6) (t_ 37),none,false⟩])
 (.seq (.seq (r_ [m_ 38 1,
 f_ 39 1 6,
 l_ 40 39,
 n_ 41 23 40,
 q_ 42 (.bin .lss 3 (t_ 38) (t_ 41))])
 (.cond (t_ 42)
 (.seq (r_ [q_ 43 (.load 9 true (t_ 2)),
 m_ 44 5,
 m_ 45 1,
 (q_ 46 (.build [(.int .i64 0),(.int .i64 0)] [(0,1,(t_ 44)),(1,1,(t_ 45))])),
 q_ 47 (.call (.func 30) [(t_ 43),(t_ 46)]),
 m_ 4 47])
 (.ret))
 (.skip)))
 (r_ [m_ 48 1,
 f_ 49 1 6,
 l_ 50 49,
 n_ 51 23 50,
 q_ 52 (.bin .sub 3 (t_ 48) (t_ 51)),
 m_ 1 52]))))
 (r_ [q_ 53 (.bin .add 3 (t_ 33) (k_ 1)),
 m_ 33 53])))
/-- patchbay/access.CellWidth -/
def ac18:AC:=
 .seq (r_ [q_ 2 (.box false 31 (t_ 0)),
 q_ 4 (.move (k_ 0))])
 (.seq (.seq (r_ (m_ 7 1::(q_ 8 (.bin .lss 3 (t_ 7) (k_ 0)))::m_ 9 8::(ac18_G1++[])))
 (.cond (t_ 14)
 (.seq (r_ [q_ 4 (.move (k_ 0))])
 (.ret))
 (.skip)))
 (.seq (.seq (r_ [m_ 15 1,
 q_ 16 (.load 9 true (t_ 2)),
 q_ 17 (.call (.func 26) [(t_ 16),(k_ 2)]),
 q_ 18 (.bin .geq 3 (t_ 15) (t_ 17))])
 (.cond (t_ 18)
 (.seq (.region true [q_ 19 (.load 9 true (t_ 2)),
 m_ 20 1,
 q_ 21 (.load 9 true (t_ 2)),
 q_ 22 (.call (.func 26) [(t_ 21),(k_ 2)]),
 q_ 23 (.bin .sub 3 (t_ 20) (t_ 22)),
 (q_ 24 (.build [(.int .i64 0),(.int .i64 0)] [(0,1,(.const (.int .i64 (-1)))),(1,1,(t_ 23))])),
 q_ 25 (.call (.func 30) [(t_ 19),(t_ 24)]),
 m_ 4 25])
 (.ret))
 (.skip)))
 (.seq (.seq (r_ [m_ 26 1,
 q_ 27 (.load 9 true (t_ 2)),
 q_ 28 (.call (.func 26) [(t_ 27),(k_ 1)]),
 q_ 29 (.bin .geq 3 (t_ 26) (t_ 28))])
 (.cond (t_ 29)
 (.seq (r_ [q_ 4 (.move (k_ 1))])
 (.ret))
 (.skip)))
 (.seq (.seq (r_ [f_ 30 1 2,
 l_ 31 30,
 n_ 32 22 31,
 q_ 33 (.move (k_ 0))])
 (.block 0 (.loop ac18_L1)))
 (.seq (r_ [q_ 4 (.move (k_ 0))])
 (.ret))))))
theorem text18:FnText Try.prog 18 [6] 54 2 ac18 [(4,none)]:=
 ⟨Try.call18,follows,Try.f18,_,Try.func18,rfl,rfl,by decide,by kernel_rfl,by kernel_rfl⟩
/-- patchbay/env.Width -/
def ac30:AC:=
 .seq (r_ [q_ 2 (.box false 31 (t_ 0)),
 q_ 3 (.box false 58 (t_ 1)),
 q_ 4 (.move (k_ 0))])
 (.seq (.region true [q_ 6 (.load 9 true (t_ 2)),
 f_ 7 0 3,
 l_ 8 7,
 q_ 9 (.call (.func 44) [(t_ 6),(t_ 8)]),
 f_ 10 1 3,
 l_ 11 10,
 q_ 12 (.call (.func 43) [(t_ 9),(t_ 11)]),
 q_ 13 (.field 1 1 false (t_ 12)),
 m_ 5 13])
 (.seq (.seq (r_ [m_ 14 5,
 q_ 15 (.call (.func 45) [(t_ 14)]),
 (q_ 16 (.bin .eql 108 (t_ 15) (.const (.int .u32 0))))])
 (.cond (t_ 16)
 (.seq (r_ [q_ 4 (.move (k_ 0))])
 (.ret))
 (.skip)))
 (.seq (r_ [m_ 17 5,
 m_ 4 17])
 (.ret))))
theorem text30:FnText Try.prog 30 [] 18 2 ac30 [(4,none)]:=
 ⟨Try.call30,follows,Try.f30,_,Try.func30,rfl,rfl,by decide,by kernel_rfl,by kernel_rfl⟩
/-- patchbay/env.fields -/
def ac44:AC:=
 .seq (r_ [q_ 2 (.box false 31 (t_ 0)),
 q_ 4 (.move z_)])
 (.seq (.seq (r_ [m_ 5 1,
 (q_ 6 (.bin .eql 3 (t_ 5) (.const (.int .i64 (-1)))))])
 (.cond (t_ 6)
 (.seq (r_ [f_ 7 2 2,
 l_ 8 7,
 m_ 4 8])
 (.ret))
 (.skip)))
 (.seq (r_ [f_ 9 1 2,
 l_ 10 9,
 m_ 11 1,
 q_ 12 (.call (.func 52) [(t_ 10),(t_ 11)]),
 q_ 13 (.field 1 1 false (t_ 12)),
 m_ 4 13])
 (.ret)))
theorem text44:FnText Try.prog 44 [] 14 2 ac44 [(4,none)]:=
 ⟨Try.call44,follows,Try.f44,_,Try.func44,rfl,rfl,by decide,by kernel_rfl,by kernel_rfl⟩
def ac52_G1:List AOper:=
 [⟨(some 9),.move (t_ 1),(some (8,false)),false⟩,
 ⟨(some 10),.move (t_ 0),(some (8,false)),false⟩,
 ⟨(some 11),.bi .len [22].toArray 3 [(t_ 10)],(some (8,false)),false⟩,
 ⟨(some 12),.bin .geq 3 (t_ 9) (t_ 11),(some (8,false)),false⟩,
 (q_ 13 (.pick (t_ 8) (.const (.bool true)) (t_ 12)))]
/-- patchbay/env.at[patchbay/api.Header] -/
def ac52:AC:=
 .seq (r_ [⟨(some 4),.alloc true 45 (.agg [(.string ⟨[].toArray⟩),(.slice none 0 0)].toArray),none,false⟩])
 (.seq (r_ [⟨(some 5),.alloc false 45 (.agg [(.string ⟨[].toArray⟩),(.slice none 0 0)].toArray),none,false⟩])
 (.seq (.seq (r_ (m_ 6 1::(q_ 7 (.bin .lss 3 (t_ 6) (k_ 0)))::m_ 8 7::(ac52_G1++[])))
 (.cond (t_ 13)
 (.seq (r_ [q_ 14 (.load 2 true (t_ 5)),
 ⟨none,.store 2 (t_ 4) (t_ 14),none,false⟩])
 (.ret))
 (.skip)))
 (.seq (r_ [m_ 15 0,
 m_ 16 1,
 q_ 17 (.iaddr 2 (t_ 15) (t_ 16)),
 q_ 18 (.load 2 true (t_ 17)),
 ⟨none,.store 2 (t_ 4) (t_ 18),none,false⟩])
 (.ret))))
theorem text52:FnText Try.prog 52 [4] 19 2 ac52 [(4,some (2,true))]:=
 ⟨Try.call52,follows,Try.f52,_,Try.func52,rfl,rfl,by decide,by kernel_rfl,by kernel_rfl⟩
def ac43_G1:List AOper:=
 [⟨(some 9),.move (t_ 1),(some (8,false)),false⟩,
 ⟨(some 10),.move (t_ 0),(some (8,false)),false⟩,
 ⟨(some 11),.bi .len [23].toArray 3 [(t_ 10)],(some (8,false)),false⟩,
 ⟨(some 12),.bin .geq 3 (t_ 9) (t_ 11),(some (8,false)),false⟩,
 (q_ 13 (.pick (t_ 8) (.const (.bool true)) (t_ 12)))]
/-- patchbay/env.at[patchbay/api.Field] -/
def ac43:AC:=
 .seq (r_ [⟨(some 4),.alloc true 85 (.agg [(.string ⟨[].toArray⟩),(.int .i64 0)].toArray),none,false⟩])
 (.seq (r_ [⟨(some 5),.alloc false 85 (.agg [(.string ⟨[].toArray⟩),(.int .i64 0)].toArray),none,false⟩])
 (.seq (.seq (r_ (m_ 6 1::(q_ 7 (.bin .lss 3 (t_ 6) (k_ 0)))::m_ 8 7::(ac43_G1++[])))
 (.cond (t_ 13)
 (.seq (r_ [q_ 14 (.load 2 true (t_ 5)),
 ⟨none,.store 2 (t_ 4) (t_ 14),none,false⟩])
 (.ret))
 (.skip)))
 (.seq (r_ [m_ 15 0,
 m_ 16 1,
 q_ 17 (.iaddr 2 (t_ 15) (t_ 16)),
 q_ 18 (.load 2 true (t_ 17)),
 ⟨none,.store 2 (t_ 4) (t_ 18),none,false⟩])
 (.ret))))
theorem text43:FnText Try.prog 43 [4] 19 2 ac43 [(4,some (2,true))]:=
 ⟨Try.call43,follows,Try.f43,_,Try.func43,rfl,rfl,by decide,by kernel_rfl,by kernel_rfl⟩
/-- math/bits.Len -/
def ac47:AC:=
 .seq (r_ [q_ 2 (.move (k_ 0))])
 (.seq (.cond (.const (.bool false))
 (.seq (r_ [m_ 3 0,
 q_ 4 (.conv 112 108 (t_ 3)),
 q_ 5 (.call (.func 62) [(t_ 4)]),
 m_ 2 5])
 (.ret))
 (.skip))
 (.seq (r_ [m_ 6 0,
 q_ 7 (.call (.func 63) [(t_ 6)]),
 m_ 2 7])
 (.ret)))
theorem text47:FnText Try.prog 47 [] 8 1 ac47 [(2,none)]:=
 ⟨Try.call47,follows,Try.f47,_,Try.func47,rfl,rfl,by decide,by kernel_rfl,by kernel_rfl⟩
/-- math/bits.Len32 -/
def ac62:AC:=
 .seq (r_ [q_ 2 (.move (k_ 0))])
 (.seq (.seq (r_ [m_ 3 0,
 (q_ 4 (.bin .geq 108 (t_ 3) (.const (.int .u32 65536))))])
 (.cond (t_ 4)
 (.seq (r_ [m_ 5 0,
 (q_ 6 (.bin .shr 108 (t_ 5) (.const (.int .u64 16)))),
 m_ 0 6])
 (r_ [q_ 2 (.move (k_ 16))]))
 (.skip)))
 (.seq (.seq (r_ [m_ 7 0,
 (q_ 8 (.bin .geq 108 (t_ 7) (.const (.int .u32 256))))])
 (.cond (t_ 8)
 (.seq (r_ [m_ 9 0,
 (q_ 10 (.bin .shr 108 (t_ 9) (.const (.int .u64 8)))),
 m_ 0 10])
 (r_ [m_ 11 2,
 q_ 12 (.bin .add 3 (t_ 11) (k_ 8)),
 m_ 2 12]))
 (.skip)))
 (.seq (r_ [m_ 13 2,
 m_ 14 0,
 q_ 15 (.conv 108 5 (t_ 14)),
 ⟨(some 16),.indexS 9 (.const (.string ⟨[0,1,2,2,3,3,3,3,4,4,4,4,4,4,4,4,5,5,5,5,5,5,5,5,5,5,5,5,5,5,5,5,6,6,6,6,6,6,6,6,6,6,6,6,6,6,6,6,6,6,6,6,6,6,6,6,6,6,6,6,6,6,6,6,7,7,7,7,7,7,7,7,7,7,7,7,7,7,7,7,7,7,7,7,7,7,7,7,7,7,7,7,7,7,7,7,7,7,7,7,7,7,7,7,7,7,7,7,7,7,7,7,7,7,7,7,7,7,7,7,7,7,7,7,7,7,7,7,8,8,8,8,8,8,8,8,8,8,8,8,8,8,8,8,8,8,8,8,8,8,8,8,8,8,8,8,8,8,8,8,8,8,8,8,8,8,8,8,8,8,8,8,8,8,8,8,8,8,8,8,8,8,8,8,8,8,8,8,8,8,8,8,8,8,8,8,8,8,8,8,8,8,8,8,8,8,8,8,8,8,8,8,8,8,8,8,8,8,8,8,8,8,8,8,8,8,8,8,8,8,8,8,8,8,8,8,8,8,8,8,8,8,8,8,8,8,8,8,8,8,8,8,8,8,8,8].toArray⟩)) (t_ 15),none,false⟩,
 q_ 17 (.conv 5 3 (t_ 16)),
 q_ 18 (.bin .add 3 (t_ 13) (t_ 17)),
 m_ 2 18])
 (.ret))))
theorem text62:FnText Try.prog 62 [] 19 1 ac62 [(2,none)]:=
 ⟨Try.call62,follows,Try.f62,_,Try.func62,rfl,rfl,by decide,by kernel_rfl,by kernel_rfl⟩
/-- math/bits.Len64 -/
def ac63:AC:=
 .seq (r_ [q_ 2 (.move (k_ 0))])
 (.seq (.seq (r_ [m_ 3 0,
 (q_ 4 (.bin .geq 131 (t_ 3) (.const (.int .u64 4294967296))))])
 (.cond (t_ 4)
 (.seq (r_ [m_ 5 0,
 (q_ 6 (.bin .shr 131 (t_ 5) (.const (.int .u64 32)))),
 m_ 0 6])
 (r_ [q_ 2 (.move (k_ 32))]))
 (.skip)))
 (.seq (.seq (r_ [m_ 7 0,
 (q_ 8 (.bin .geq 131 (t_ 7) (.const (.int .u64 65536))))])
 (.cond (t_ 8)
 (.seq (r_ [m_ 9 0,
 (q_ 10 (.bin .shr 131 (t_ 9) (.const (.int .u64 16)))),
 m_ 0 10])
 (r_ [m_ 11 2,
 q_ 12 (.bin .add 3 (t_ 11) (k_ 16)),
 m_ 2 12]))
 (.skip)))
 (.seq (.seq (r_ [m_ 13 0,
 (q_ 14 (.bin .geq 131 (t_ 13) (.const (.int .u64 256))))])
 (.cond (t_ 14)
 (.seq (r_ [m_ 15 0,
 (q_ 16 (.bin .shr 131 (t_ 15) (.const (.int .u64 8)))),
 m_ 0 16])
 (r_ [m_ 17 2,
 q_ 18 (.bin .add 3 (t_ 17) (k_ 8)),
 m_ 2 18]))
 (.skip)))
 (.seq (r_ [m_ 19 2,
 m_ 20 0,
 q_ 21 (.conv 131 5 (t_ 20)),
 ⟨(some 22),.indexS 9 (.const (.string ⟨[0,1,2,2,3,3,3,3,4,4,4,4,4,4,4,4,5,5,5,5,5,5,5,5,5,5,5,5,5,5,5,5,6,6,6,6,6,6,6,6,6,6,6,6,6,6,6,6,6,6,6,6,6,6,6,6,6,6,6,6,6,6,6,6,7,7,7,7,7,7,7,7,7,7,7,7,7,7,7,7,7,7,7,7,7,7,7,7,7,7,7,7,7,7,7,7,7,7,7,7,7,7,7,7,7,7,7,7,7,7,7,7,7,7,7,7,7,7,7,7,7,7,7,7,7,7,7,7,8,8,8,8,8,8,8,8,8,8,8,8,8,8,8,8,8,8,8,8,8,8,8,8,8,8,8,8,8,8,8,8,8,8,8,8,8,8,8,8,8,8,8,8,8,8,8,8,8,8,8,8,8,8,8,8,8,8,8,8,8,8,8,8,8,8,8,8,8,8,8,8,8,8,8,8,8,8,8,8,8,8,8,8,8,8,8,8,8,8,8,8,8,8,8,8,8,8,8,8,8,8,8,8,8,8,8,8,8,8,8,8,8,8,8,8,8,8,8,8,8,8,8,8,8,8,8,8].toArray⟩)) (t_ 21),none,false⟩,
 q_ 23 (.conv 5 3 (t_ 22)),
 q_ 24 (.bin .add 3 (t_ 19) (t_ 23)),
 m_ 2 24])
 (.ret)))))
theorem text63:FnText Try.prog 63 [] 25 1 ac63 [(2,none)]:=
 ⟨Try.call63,follows,Try.f63,_,Try.func63,rfl,rfl,by decide,by kernel_rfl,by kernel_rfl⟩
def ac46_G1:List AOper:=
 [⟨(some 70),.move (t_ 11),(some (69,true)),false⟩,
 (q_ 71 (.pick (t_ 69) (t_ 70) (.const (.bool false))))]
def ac46_G2:List AOper:=
 [⟨(some 73),.move (t_ 14),(some (72,true)),false⟩,
 ⟨(some 74),.bin .eql 122 (t_ 73) (k_ 1),(some (72,true)),false⟩,
 (q_ 75 (.pick (t_ 72) (t_ 74) (.const (.bool false))))]
def ac46_G3:List AOper:=
 [⟨(some 84),.move (t_ 4),(some (83,true)),false⟩,
 ⟨(some 85),.move (t_ 0),(some (83,true)),false⟩,
 ⟨(some 86),.move (t_ 1),(some (83,true)),false⟩,
 ⟨(some 87),.bin .sub 3 (t_ 86) (k_ 1),(some (83,true)),false⟩,
 ⟨(some 88),.iaddr 2 (t_ 85) (t_ 87),(some (83,true)),false⟩,
 ⟨(some 89),.load 2 true (t_ 88),(some (83,true)),false⟩,
 ⟨(some 90),.move (t_ 0),(some (83,true)),false⟩,
 ⟨(some 91),.move (t_ 13),(some (83,true)),false⟩,
 ⟨(some 92),.iaddr 2 (t_ 90) (t_ 91),(some (83,true)),false⟩,
 ⟨(some 93),.load 2 true (t_ 92),(some (83,true)),false⟩,
 ⟨(some 94),.call (t_ 84) [(t_ 89),(t_ 93)],(some (83,true)),false⟩,
 ⟨(some 95),.bin .lss 3 (t_ 94) (k_ 0),(some (83,true)),false⟩,
 ⟨(some 96),.un .not (t_ 95),(some (83,true)),false⟩,
 (q_ 97 (.pick (t_ 83) (t_ 96) (.const (.bool false))))]
def ac46_L1:AC:=
 .block 1 (.seq (r_ [m_ 21 2,
 m_ 22 1,
 q_ 23 (.bin .sub 3 (t_ 21) (t_ 22)),
 m_ 12 23])
 (.seq (.seq (r_ [m_ 24 12,
 q_ 25 (.bin .leq 3 (t_ 24) (k_ 12))])
 (.cond (t_ 25)
 (.seq (r_ [m_ 26 0,
 m_ 27 1,
 m_ 28 2,
 m_ 29 4,
 q_ 30 (.call (.func 54) [(t_ 26),(t_ 27),(t_ 28),(t_ 29)])])
 (.ret))
 (.skip)))
 (.seq (.seq (r_ [m_ 31 3,
 q_ 32 (.bin .eql 3 (t_ 31) (k_ 0))])
 (.cond (t_ 32)
 (.seq (r_ [m_ 33 0,
 m_ 34 1,
 m_ 35 2,
 m_ 36 4,
 q_ 37 (.call (.func 55) [(t_ 33),(t_ 34),(t_ 35),(t_ 36)])])
 (.ret))
 (.skip)))
 (.seq (.seq (r_ [m_ 38 10,
 q_ 39 (.un .not (t_ 38))])
 (.cond (t_ 39)
 (.seq (r_ [m_ 40 0,
 m_ 41 1,
 m_ 42 2,
 m_ 43 4,
 q_ 44 (.call (.func 56) [(t_ 40),(t_ 41),(t_ 42),(t_ 43)])])
 (r_ [m_ 45 3,
 q_ 46 (.bin .sub 3 (t_ 45) (k_ 1)),
 m_ 3 46]))
 (.skip)))
 (.seq (r_ [m_ 48 0,
 m_ 49 1,
 m_ 50 2,
 m_ 51 4,
 q_ 52 (.call (.func 57) [(t_ 48),(t_ 49),(t_ 50),(t_ 51)]),
 m_ 47 52,
 q_ 53 (.extract (t_ 47) 0),
 q_ 54 (.extract (t_ 47) 1),
 m_ 13 53,
 m_ 14 54])
 (.seq (.seq (r_ [m_ 55 14,
 q_ 56 (.bin .eql 122 (t_ 55) (k_ 2))])
 (.cond (t_ 56)
 (.seq (r_ [m_ 57 0,
 m_ 58 1,
 m_ 59 2,
 m_ 60 4,
 q_ 61 (.call (.func 58) [(t_ 57),(t_ 58),(t_ 59),(t_ 60)])])
 (.seq (r_ [m_ 62 2,
 q_ 63 (.bin .sub 3 (t_ 62) (k_ 1)),
 m_ 64 13,
 m_ 65 1,
 q_ 66 (.bin .sub 3 (t_ 64) (t_ 65)),
 q_ 67 (.bin .sub 3 (t_ 63) (t_ 66)),
 m_ 13 67])
 (r_ [q_ 14 (.move (k_ 1))])))
 (.skip)))
 (.seq (.seq (r_ (m_ 68 10::m_ 69 68::(ac46_G1++(m_ 72 71::(ac46_G2++[])))))
 (.cond (t_ 75)
 (.seq (r_ [m_ 76 0,
 m_ 77 1,
 m_ 78 2,
 m_ 79 4,
 q_ 80 (.call (.func 59) [(t_ 76),(t_ 77),(t_ 78),(t_ 79)])])
 (.cond (t_ 80)
 (.ret)
 (.skip)))
 (.skip)))
 (.seq (.seq (.region true (m_ 81 1::(q_ 82 (.bin .gtr 3 (t_ 81) (k_ 0)))::m_ 83 82::(ac46_G3++[])))
 (.cond (t_ 97)
 (.seq (r_ [m_ 98 0,
 m_ 99 1,
 m_ 100 2,
 m_ 101 13,
 m_ 102 4,
 q_ 103 (.call (.func 60) [(t_ 98),(t_ 99),(t_ 100),(t_ 101),(t_ 102)]),
 m_ 15 103])
 (.seq (r_ [m_ 104 15,
 m_ 1 104])
 (.exit 1)))
 (.skip)))
 (.seq (r_ [m_ 106 0,
 m_ 107 1,
 m_ 108 2,
 m_ 109 13,
 m_ 110 4,
 q_ 111 (.call (.func 61) [(t_ 106),(t_ 107),(t_ 108),(t_ 109),(t_ 110)]),
 m_ 105 111,
 q_ 112 (.extract (t_ 105) 0),
 q_ 113 (.extract (t_ 105) 1),
 m_ 16 112,
 m_ 17 113])
 (.seq (r_ [m_ 114 17,
 m_ 11 114])
 (.seq (r_ [m_ 115 16,
 m_ 116 1,
 q_ 117 (.bin .sub 3 (t_ 115) (t_ 116)),
 m_ 118 2,
 m_ 119 16,
 q_ 120 (.bin .sub 3 (t_ 118) (t_ 119)),
 m_ 18 117,
 m_ 19 120])
 (.seq (r_ [m_ 121 12,
 q_ 122 (.bin .quo 3 (t_ 121) (k_ 8)),
 m_ 20 122])
 (.seq (r_ [m_ 123 18,
 m_ 124 19,
 q_ 125 (.bin .lss 3 (t_ 123) (t_ 124))])
 (.cond (t_ 125)
 (.seq (r_ [m_ 126 18,
 m_ 127 20,
 q_ 128 (.bin .geq 3 (t_ 126) (t_ 127)),
 m_ 10 128])
 (.seq (r_ [m_ 129 0,
 m_ 130 1,
 m_ 131 16,
 m_ 132 3,
 m_ 133 4,
 q_ 134 (.call (.func 46) [(t_ 129),(t_ 130),(t_ 131),(t_ 132),(t_ 133)])])
 (r_ [m_ 135 16,
 q_ 136 (.bin .add 3 (t_ 135) (k_ 1)),
 m_ 1 136])))
 (.seq (r_ [m_ 137 19,
 m_ 138 20,
 q_ 139 (.bin .geq 3 (t_ 137) (t_ 138)),
 m_ 10 139])
 (.seq (r_ [m_ 140 0,
 m_ 141 16,
 q_ 142 (.bin .add 3 (t_ 141) (k_ 1)),
 m_ 143 2,
 m_ 144 3,
 m_ 145 4,
 q_ 146 (.call (.func 46) [(t_ 140),(t_ 142),(t_ 143),(t_ 144),(t_ 145)])])
 (r_ [m_ 147 16,
 m_ 2 147])))))))))))))))))
/-- slices.pdqsortCmpFunc[patchbay/api.FieldRef] -/
def ac46:AC:=
 .seq (r_ [(q_ 10 (.move (.const (.bool true))))])
 (.seq (r_ [(q_ 11 (.move (.const (.bool true))))])
 (.block 0 (.loop ac46_L1)))
theorem text46:FnText Try.prog 46 [] 148 5 ac46 []:=
 ⟨Try.call46,follows,Try.f46,_,Try.func46,rfl,rfl,by decide,by kernel_rfl,by kernel_rfl⟩
def ac54_G1:List AOper:=
 [⟨(some 22),.move (t_ 3),(some (21,true)),false⟩,
 ⟨(some 23),.move (t_ 0),(some (21,true)),false⟩,
 ⟨(some 24),.move (t_ 9),(some (21,true)),false⟩,
 ⟨(some 25),.iaddr 2 (t_ 23) (t_ 24),(some (21,true)),false⟩,
 ⟨(some 26),.load 2 true (t_ 25),(some (21,true)),false⟩,
 ⟨(some 27),.move (t_ 0),(some (21,true)),false⟩,
 ⟨(some 28),.move (t_ 9),(some (21,true)),false⟩,
 ⟨(some 29),.bin .sub 3 (t_ 28) (k_ 1),(some (21,true)),false⟩,
 ⟨(some 30),.iaddr 2 (t_ 27) (t_ 29),(some (21,true)),false⟩,
 ⟨(some 31),.load 2 true (t_ 30),(some (21,true)),false⟩,
 ⟨(some 32),.call (t_ 22) [(t_ 26),(t_ 31)],(some (21,true)),false⟩,
 ⟨(some 33),.bin .lss 3 (t_ 32) (k_ 0),(some (21,true)),false⟩,
 (q_ 34 (.pick (t_ 21) (t_ 33) (.const (.bool false))))]
def ac54_L2:AC:=
 .seq (.seq (.region true (m_ 18 9::m_ 19 1::(q_ 20 (.bin .gtr 3 (t_ 18) (t_ 19)))::m_ 21 20::(ac54_G1++[])))
 (.cond (t_ 34)
 (.skip)
 (.exit 2)))
 (.seq (.block 3 (.region true [m_ 37 0,
 m_ 38 9,
 ⟨(some 39),.move (t_ 0),none,true⟩,
 ⟨(some 40),.move (t_ 9),none,true⟩,
 ⟨(some 41),.bin .sub 3 (t_ 40) (k_ 1),none,true⟩,
 m_ 42 0,
 m_ 43 9,
 q_ 44 (.bin .sub 3 (t_ 43) (k_ 1)),
 q_ 45 (.iaddr 2 (t_ 42) (t_ 44)),
 q_ 46 (.load 2 true (t_ 45)),
 m_ 47 0,
 m_ 48 9,
 q_ 49 (.iaddr 2 (t_ 47) (t_ 48)),
 q_ 50 (.load 2 true (t_ 49)),
 q_ 51 (.iaddr 2 (t_ 37) (t_ 38)),
 ⟨none,.store 2 (t_ 51) (t_ 46),none,false⟩,
 q_ 52 (.iaddr 2 (t_ 39) (t_ 41)),
 ⟨none,.store 2 (t_ 52) (t_ 50),none,false⟩]))
 (r_ [m_ 35 9,
 q_ 36 (.bin .sub 3 (t_ 35) (k_ 1)),
 m_ 9 36]))
def ac54_L1:AC:=
 .seq (.seq (r_ [m_ 12 8,
 m_ 13 2,
 q_ 14 (.bin .lss 3 (t_ 12) (t_ 13))])
 (.cond (t_ 14)
 (.skip)
 (.exit 0)))
 (.seq (.block 1 (.seq (r_ [m_ 17 8,
 m_ 9 17])
 (.block 2 (.loop ac54_L2))))
 (r_ [m_ 15 8,
 q_ 16 (.bin .add 3 (t_ 15) (k_ 1)),
 m_ 8 16]))
/-- slices.insertionSortCmpFunc[patchbay/api.FieldRef] -/
def ac54:AC:=
 .seq (r_ [m_ 10 1,
 q_ 11 (.bin .add 3 (t_ 10) (k_ 1)),
 m_ 8 11])
 (.block 0 (.loop ac54_L1))
theorem text54:FnText Try.prog 54 [] 53 4 ac54 []:=
 ⟨Try.call54,follows,Try.f54,_,Try.func54,rfl,rfl,by decide,by kernel_rfl,by kernel_rfl⟩
def ac49_G1:List AOper:=
 [⟨(some 63),.move (t_ 9),(some (62,true)),false⟩,
 (q_ 64 (.pick (t_ 62) (t_ 63) (.const (.bool false))))]
def ac49_G2:List AOper:=
 [⟨(some 66),.move (t_ 12),(some (65,true)),false⟩,
 ⟨(some 67),.bin .eql 122 (t_ 66) (k_ 1),(some (65,true)),false⟩,
 (q_ 68 (.pick (t_ 65) (t_ 67) (.const (.bool false))))]
def ac49_G3:List AOper:=
 [⟨(some 76),.move (t_ 0),(some (75,true)),false⟩,
 ⟨(some 77),.move (t_ 1),(some (75,true)),false⟩,
 ⟨(some 78),.bin .sub 3 (t_ 77) (k_ 1),(some (75,true)),false⟩,
 ⟨(some 79),.iaddr 1 (t_ 76) (t_ 78),(some (75,true)),false⟩,
 ⟨(some 80),.load 1 false (t_ 79),(some (75,true)),false⟩,
 ⟨(some 81),.move (t_ 0),(some (75,true)),false⟩,
 ⟨(some 82),.move (t_ 11),(some (75,true)),false⟩,
 ⟨(some 83),.iaddr 1 (t_ 81) (t_ 82),(some (75,true)),false⟩,
 ⟨(some 84),.load 1 false (t_ 83),(some (75,true)),false⟩,
 ⟨(some 85),.call (.func 70) [(t_ 80),(t_ 84)],(some (75,true)),false⟩,
 ⟨(some 86),.un .not (t_ 85),(some (75,true)),false⟩,
 (q_ 87 (.pick (t_ 75) (t_ 86) (.const (.bool false))))]
def ac49_L1:AC:=
 .block 1 (.seq (r_ [m_ 19 2,
 m_ 20 1,
 q_ 21 (.bin .sub 3 (t_ 19) (t_ 20)),
 m_ 10 21])
 (.seq (.seq (r_ [m_ 22 10,
 q_ 23 (.bin .leq 3 (t_ 22) (k_ 12))])
 (.cond (t_ 23)
 (.seq (r_ [m_ 24 0,
 m_ 25 1,
 m_ 26 2,
 q_ 27 (.call (.func 64) [(t_ 24),(t_ 25),(t_ 26)])])
 (.ret))
 (.skip)))
 (.seq (.seq (r_ [m_ 28 3,
 q_ 29 (.bin .eql 3 (t_ 28) (k_ 0))])
 (.cond (t_ 29)
 (.seq (r_ [m_ 30 0,
 m_ 31 1,
 m_ 32 2,
 q_ 33 (.call (.func 65) [(t_ 30),(t_ 31),(t_ 32)])])
 (.ret))
 (.skip)))
 (.seq (.seq (r_ [m_ 34 8,
 q_ 35 (.un .not (t_ 34))])
 (.cond (t_ 35)
 (.seq (r_ [m_ 36 0,
 m_ 37 1,
 m_ 38 2,
 q_ 39 (.call (.func 66) [(t_ 36),(t_ 37),(t_ 38)])])
 (r_ [m_ 40 3,
 q_ 41 (.bin .sub 3 (t_ 40) (k_ 1)),
 m_ 3 41]))
 (.skip)))
 (.seq (r_ [m_ 43 0,
 m_ 44 1,
 m_ 45 2,
 q_ 46 (.call (.func 67) [(t_ 43),(t_ 44),(t_ 45)]),
 m_ 42 46,
 q_ 47 (.extract (t_ 42) 0),
 q_ 48 (.extract (t_ 42) 1),
 m_ 11 47,
 m_ 12 48])
 (.seq (.seq (r_ [m_ 49 12,
 q_ 50 (.bin .eql 122 (t_ 49) (k_ 2))])
 (.cond (t_ 50)
 (.seq (r_ [m_ 51 0,
 m_ 52 1,
 m_ 53 2,
 q_ 54 (.call (.func 68) [(t_ 51),(t_ 52),(t_ 53)])])
 (.seq (r_ [m_ 55 2,
 q_ 56 (.bin .sub 3 (t_ 55) (k_ 1)),
 m_ 57 11,
 m_ 58 1,
 q_ 59 (.bin .sub 3 (t_ 57) (t_ 58)),
 q_ 60 (.bin .sub 3 (t_ 56) (t_ 59)),
 m_ 11 60])
 (r_ [q_ 12 (.move (k_ 1))])))
 (.skip)))
 (.seq (.seq (r_ (m_ 61 8::m_ 62 61::(ac49_G1++(m_ 65 64::(ac49_G2++[])))))
 (.cond (t_ 68)
 (.seq (r_ [m_ 69 0,
 m_ 70 1,
 m_ 71 2,
 q_ 72 (.call (.func 69) [(t_ 69),(t_ 70),(t_ 71)])])
 (.cond (t_ 72)
 (.ret)
 (.skip)))
 (.skip)))
 (.seq (.seq (.region true (m_ 73 1::(q_ 74 (.bin .gtr 3 (t_ 73) (k_ 0)))::m_ 75 74::(ac49_G3++[])))
 (.cond (t_ 87)
 (.seq (r_ [m_ 88 0,
 m_ 89 1,
 m_ 90 2,
 m_ 91 11,
 q_ 92 (.call (.func 71) [(t_ 88),(t_ 89),(t_ 90),(t_ 91)]),
 m_ 13 92])
 (.seq (r_ [m_ 93 13,
 m_ 1 93])
 (.exit 1)))
 (.skip)))
 (.seq (r_ [m_ 95 0,
 m_ 96 1,
 m_ 97 2,
 m_ 98 11,
 q_ 99 (.call (.func 72) [(t_ 95),(t_ 96),(t_ 97),(t_ 98)]),
 m_ 94 99,
 q_ 100 (.extract (t_ 94) 0),
 q_ 101 (.extract (t_ 94) 1),
 m_ 14 100,
 m_ 15 101])
 (.seq (r_ [m_ 102 15,
 m_ 9 102])
 (.seq (r_ [m_ 103 14,
 m_ 104 1,
 q_ 105 (.bin .sub 3 (t_ 103) (t_ 104)),
 m_ 106 2,
 m_ 107 14,
 q_ 108 (.bin .sub 3 (t_ 106) (t_ 107)),
 m_ 16 105,
 m_ 17 108])
 (.seq (r_ [m_ 109 10,
 q_ 110 (.bin .quo 3 (t_ 109) (k_ 8)),
 m_ 18 110])
 (.seq (r_ [m_ 111 16,
 m_ 112 17,
 q_ 113 (.bin .lss 3 (t_ 111) (t_ 112))])
 (.cond (t_ 113)
 (.seq (r_ [m_ 114 16,
 m_ 115 18,
 q_ 116 (.bin .geq 3 (t_ 114) (t_ 115)),
 m_ 8 116])
 (.seq (r_ [m_ 117 0,
 m_ 118 1,
 m_ 119 14,
 m_ 120 3,
 q_ 121 (.call (.func 49) [(t_ 117),(t_ 118),(t_ 119),(t_ 120)])])
 (r_ [m_ 122 14,
 q_ 123 (.bin .add 3 (t_ 122) (k_ 1)),
 m_ 1 123])))
 (.seq (r_ [m_ 124 17,
 m_ 125 18,
 q_ 126 (.bin .geq 3 (t_ 124) (t_ 125)),
 m_ 8 126])
 (.seq (r_ [m_ 127 0,
 m_ 128 14,
 q_ 129 (.bin .add 3 (t_ 128) (k_ 1)),
 m_ 130 2,
 m_ 131 3,
 q_ 132 (.call (.func 49) [(t_ 127),(t_ 129),(t_ 130),(t_ 131)])])
 (r_ [m_ 133 14,
 m_ 2 133])))))))))))))))))
/-- slices.pdqsortOrdered[int] -/
def ac49:AC:=
 .seq (r_ [(q_ 8 (.move (.const (.bool true))))])
 (.seq (r_ [(q_ 9 (.move (.const (.bool true))))])
 (.block 0 (.loop ac49_L1)))
theorem text49:FnText Try.prog 49 [] 134 4 ac49 []:=
 ⟨Try.call49,follows,Try.f49,_,Try.func49,rfl,rfl,by decide,by kernel_rfl,by kernel_rfl⟩
def ac64_G1:List AOper:=
 [⟨(some 20),.move (t_ 0),(some (19,true)),false⟩,
 ⟨(some 21),.move (t_ 7),(some (19,true)),false⟩,
 ⟨(some 22),.iaddr 1 (t_ 20) (t_ 21),(some (19,true)),false⟩,
 ⟨(some 23),.load 1 false (t_ 22),(some (19,true)),false⟩,
 ⟨(some 24),.move (t_ 0),(some (19,true)),false⟩,
 ⟨(some 25),.move (t_ 7),(some (19,true)),false⟩,
 ⟨(some 26),.bin .sub 3 (t_ 25) (k_ 1),(some (19,true)),false⟩,
 ⟨(some 27),.iaddr 1 (t_ 24) (t_ 26),(some (19,true)),false⟩,
 ⟨(some 28),.load 1 false (t_ 27),(some (19,true)),false⟩,
 ⟨(some 29),.call (.func 70) [(t_ 23),(t_ 28)],(some (19,true)),false⟩,
 (q_ 30 (.pick (t_ 19) (t_ 29) (.const (.bool false))))]
def ac64_L2:AC:=
 .seq (.seq (.region true (m_ 16 7::m_ 17 1::(q_ 18 (.bin .gtr 3 (t_ 16) (t_ 17)))::m_ 19 18::(ac64_G1++[])))
 (.cond (t_ 30)
 (.skip)
 (.exit 2)))
 (.seq (.block 3 (.region true [m_ 33 0,
 m_ 34 7,
 ⟨(some 35),.move (t_ 0),none,true⟩,
 ⟨(some 36),.move (t_ 7),none,true⟩,
 ⟨(some 37),.bin .sub 3 (t_ 36) (k_ 1),none,true⟩,
 m_ 38 0,
 m_ 39 7,
 q_ 40 (.bin .sub 3 (t_ 39) (k_ 1)),
 q_ 41 (.iaddr 1 (t_ 38) (t_ 40)),
 l_ 42 41,
 m_ 43 0,
 m_ 44 7,
 q_ 45 (.iaddr 1 (t_ 43) (t_ 44)),
 l_ 46 45,
 q_ 47 (.iaddr 1 (t_ 33) (t_ 34)),
 ⟨none,.store 1 (t_ 47) (t_ 42),none,false⟩,
 q_ 48 (.iaddr 1 (t_ 35) (t_ 37)),
 ⟨none,.store 1 (t_ 48) (t_ 46),none,false⟩]))
 (r_ [m_ 31 7,
 q_ 32 (.bin .sub 3 (t_ 31) (k_ 1)),
 m_ 7 32]))
def ac64_L1:AC:=
 .seq (.seq (r_ [m_ 10 6,
 m_ 11 2,
 q_ 12 (.bin .lss 3 (t_ 10) (t_ 11))])
 (.cond (t_ 12)
 (.skip)
 (.exit 0)))
 (.seq (.block 1 (.seq (r_ [m_ 15 6,
 m_ 7 15])
 (.block 2 (.loop ac64_L2))))
 (r_ [m_ 13 6,
 q_ 14 (.bin .add 3 (t_ 13) (k_ 1)),
 m_ 6 14]))
/-- slices.insertionSortOrdered[int] -/
def ac64:AC:=
 .seq (r_ [m_ 8 1,
 q_ 9 (.bin .add 3 (t_ 8) (k_ 1)),
 m_ 6 9])
 (.block 0 (.loop ac64_L1))
theorem text64:FnText Try.prog 64 [] 49 3 ac64 []:=
 ⟨Try.call64,follows,Try.f64,_,Try.func64,rfl,rfl,by decide,by kernel_rfl,by kernel_rfl⟩
def ac70_G1:List AOper:=
 [⟨(some 8),.move (t_ 1),(some (7,true)),false⟩,
 ⟨(some 9),.call (.func 48) [(t_ 8)],(some (7,true)),false⟩,
 ⟨(some 10),.un .not (t_ 9),(some (7,true)),false⟩,
 (q_ 11 (.pick (t_ 7) (t_ 10) (.const (.bool false))))]
def ac70_G2:List AOper:=
 [⟨(some 13),.move (t_ 0),(some (12,false)),false⟩,
 ⟨(some 14),.move (t_ 1),(some (12,false)),false⟩,
 ⟨(some 15),.bin .lss 3 (t_ 13) (t_ 14),(some (12,false)),false⟩,
 (q_ 16 (.pick (t_ 12) (.const (.bool true)) (t_ 15)))]
/-- cmp.Less[int] -/
def ac70:AC:=
 .seq (r_ [(q_ 4 (.move (.const (.bool false))))])
 (.seq (r_ (m_ 5 0::(q_ 6 (.call (.func 48) [(t_ 5)]))::m_ 7 6::(ac70_G1++(m_ 12 11::(ac70_G2++[m_ 4 16])))))
 (.ret))
theorem text70:FnText Try.prog 70 [] 17 2 ac70 [(4,none)]:=
 ⟨Try.call70,follows,Try.f70,_,Try.func70,rfl,rfl,by decide,by kernel_rfl,by kernel_rfl⟩
end Go.Proofs.Ytmonnlkagniolaa
