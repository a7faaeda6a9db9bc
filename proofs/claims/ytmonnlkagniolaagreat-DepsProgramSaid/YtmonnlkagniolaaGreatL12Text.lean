/-
 The text of each function of this seat,azq the plain library tells it;each by the kernel's own reckoning from the program.
-/
import Derived.Test.YtmonnlkagniolaaGreatPbV
import Derived.Test.YtmonnlkagniolaaGreatRows
set_option linter.unusedVariables false
set_option maxRecDepth 100000
namespace Go.Proofs.YtmonnlkagniolaaGreat
open Go Go.Pb
abbrev q_(d:Nat)(o:AOp):AOper:=⟨some d,o,none,false⟩
abbrev t_(n:Nat):Operand:= .tmp n
abbrev k_(i:Int):Operand:= .const (.int .i64 i)
abbrev m_(d n:Nat):AOper:=⟨some d,.move (.tmp n),none,false⟩
abbrev l_(d n:Nat):AOper:=⟨some d,.load 1 false (.tmp n),none,false⟩
abbrev f_(d a n:Nat):AOper:=⟨some d,.faddr a 1 false (.tmp n),none,false⟩
abbrev n_(d a n:Nat):AOper:=⟨some d,.bi .len [a].toArray 3 [.tmp n],none,false⟩
abbrev r_(l:List AOper):AC:= .region false l
abbrev z_:Operand:= .const (.slice none 0 0)
theorem follows:Tryz.prog.follows .mixedOrders=true:=by kernel_rfl
def em3:AC:=rdc (cO Tryz.prog [] 20 Tryz.f94) _ Z
def df5:AC:=rdc (lP 0 em3) _ Z
theorem eg6:FnText Tryz.prog 94 [] 20 1 em3 [(2,none)]:=tX Tryz.call94 follows Tryz.func94 O O OO Y Y
def en1:AC:=rdc (cO Tryz.prog [] 45 Tryz.f95) _ Z
def dn6:AC:=rdc (lP 0 en1) _ Z
theorem dx5:FnText Tryz.prog 95 [] 45 1 en1 [(2,none)]:=tX Tryz.call95 follows Tryz.func95 O O OO Y Y
def ca5:AC:=rdc (cO Tryz.prog [7] 179 Tryz.f27) _ Z
def de6:AC:=rdc (lP 0 ca5) _ Z
def dg2:AC:=rdc (lP 1 ca5) _ Z
def dn0:AC:=rdc (lP 2 ca5) _ Z
def cv8:AC:=rdc (lP 3 ca5) _ Z
def do5:AC:=rdc (lP 4 ca5) _ Z
theorem dv3:FnText Tryz.prog 27 [7] 179 1 ca5 [(2,none)]:=tX Tryz.call27 follows Tryz.func27 O O OO Y Y
def dt2:AC:=rdc (cO Tryz.prog [] 65 Tryz.f125) _ Z
def cm3:AC:=rdc (lP 0 dt2) _ Z
theorem da9:FnText Tryz.prog 125 [] 65 3 dt2 [(6,none)]:=tX Tryz.call125 follows Tryz.func125 O O OO Y Y
def ev4:AC:=rdc (cO Tryz.prog [] 10 Tryz.f53) _ Z
theorem dx9:FnText Tryz.prog 53 [] 10 2 ev4 [(4,none)]:=tX Tryz.call53 follows Tryz.func53 O O OO Y Y
def ev8:AC:=rdc (cO Tryz.prog [] 29 Tryz.f29) _ Z
theorem du9:FnText Tryz.prog 29 [] 29 0 ev8 [(0,none)]:=tX Tryz.call29 follows Tryz.func29 O O OO Y Y
def el0:AC:=rdc (cO Tryz.prog [] 6 Tryz.f232) _ Z
theorem db9:FnText Tryz.prog 232 [] 6 2 el0 [(3,none)]:=tX Tryz.call232 follows Tryz.func232 O O OO Y Y
def av2:List AOper:=
 [⟨(some 18),.faddr 3 1 false (t_ 6),(some (17,false)),false⟩,
 ⟨(some 19),.load 1 false (t_ 18),(some (17,false)),false⟩,
 ⟨(some 20),.move (t_ 1),(some (17,false)),false⟩,
 ⟨(some 21),.call (.func 196) [(t_ 19),(t_ 20)],(some (17,false)),false⟩,
 ⟨(some 22),.un .not (t_ 21),(some (17,false)),false⟩,
 (q_ 23 (.pick (t_ 17) (.const (.bool true)) (t_ 22)))]
def as5:List AOper:=
 [⟨(some 25),.faddr 4 1 false (t_ 6),(some (24,false)),false⟩,
 ⟨(some 26),.load 1 false (t_ 25),(some (24,false)),false⟩,
 ⟨(some 27),.move (t_ 1),(some (24,false)),false⟩,
 ⟨(some 28),.call (.func 196) [(t_ 26),(t_ 27)],(some (24,false)),false⟩,
 ⟨(some 29),.un .not (t_ 28),(some (24,false)),false⟩,
 (q_ 30 (.pick (t_ 24) (.const (.bool true)) (t_ 29)))]
def ah0:AC:=
 .seq (r_ [q_ 10 (.bin .lss 3 (t_ 9) (t_ 8))])
 (.seq (.cond (t_ 10)
 (.skip)
 (.exit 0))
 (.seq (.block 1 (.seq (r_ [q_ 11 (.iaddr 5 (t_ 7) (t_ 9)),
 q_ 12 (.load 5 true (t_ 11)),
 (q_ 6 (.alloc true 180 (.agg [(.int .i64 0),(.int .i64 0),(.slice none 0 0),(.slice none 0 0),(.slice none 0 0)].toArray))),
 ⟨none,.store 5 (t_ 6) (t_ 12),none,false⟩])
 (.seq (r_ (m_ 13 1::(q_ 14 (.load 5 true (t_ 6)))::(q_ 15 (.call (t_ 13) [(t_ 14)]))::(q_ 16 (.un .not (t_ 15)))::m_ 17 16::(av2++(m_ 24 23::(as5++[])))))
 (.cond (t_ 30)
 (.seq (r_ [(q_ 4 (.move (.const (.bool false))))])
 (.ret))
 (.skip)))))
 (r_ [q_ 31 (.bin .add 3 (t_ 9) (k_ 1)),
 m_ 9 31])))
/-- patchbay/control.preorder -/
def cl2:AC:=
 .seq (r_ [(q_ 4 (.move (.const (.bool false))))])
 (.seq (.seq (r_ [m_ 7 0,
 n_ 8 28 7,
 q_ 9 (.move (k_ 0))])
 (.block 0 (.loop ah0)))
 (.seq (r_ [(q_ 4 (.move (.const (.bool true))))])
 (.ret)))
theorem da1:FnText Tryz.prog 196 [6] 32 2 cl2 [(4,none)]:=
 ⟨Tryz.call196,follows,Tryz.f196,_,Tryz.func196,rfl,rfl,by decide,by kernel_rfl,by kernel_rfl⟩
def eq1:AC:=rdc (cO Tryz.prog [3] 8 Tryz.f194) _ Z
theorem cy3:FnText Tryz.prog 194 [3] 8 1 eq1 [(2,none)]:=tX Tryz.call194 follows Tryz.func194 O O OO Y Y
def dr9:AC:=rdc (cO Tryz.prog [5] 26 Tryz.f195) _ Z
def cf9:AC:=rdc (lP 0 dr9) _ Z
theorem do9:FnText Tryz.prog 195 [5] 26 1 dr9 [(2,none)]:=tX Tryz.call195 follows Tryz.func195 O O OO Y Y
def ei6:AC:=rdc (cO Tryz.prog [] 25 Tryz.f267) _ Z
theorem dl8:FnText Tryz.prog 267 [] 25 1 ei6 [(2,none)]:=tX Tryz.call267 follows Tryz.func267 O O OO Y Y
def em6:AC:=rdc (cO Tryz.prog [] 11 Tryz.f287) _ Z
theorem de4:FnText Tryz.prog 287 [] 11 1 em6 [(2,none),(3,none)]:=tX Tryz.call287 follows Tryz.func287 O O OO Y Y
def dt6:AC:=rdc (cO Tryz.prog [] 18 Tryz.f181) _ Z
def ce1:AC:=rdc (lP 0 dt6) _ Z
theorem dn8:FnText Tryz.prog 181 [] 18 1 dt6 [(2,none)]:=tX Tryz.call181 follows Tryz.func181 O O OO Y Y
def ep0:AC:=rdc (cO Tryz.prog [] 10 Tryz.f182) _ Z
theorem dc8:FnText Tryz.prog 182 [] 10 1 ep0 [(2,none)]:=tX Tryz.call182 follows Tryz.func182 O O OO Y Y
def ds1:AC:=rdc (cO Tryz.prog [6] 45 Tryz.f288) _ Z
theorem dk7:FnText Tryz.prog 288 [6] 45 3 ds1 [(6,some (2,true)),(7,none)]:=tX Tryz.call288 follows Tryz.func288 O O OO Y Y
def el9:AC:=rdc (cO Tryz.prog [8] 90 Tryz.f268) _ Z
theorem dc9:FnText Tryz.prog 268 [8] 90 2 el9 [(4,none),(5,none)]:=tX Tryz.call268 follows Tryz.func268 O O OO Y Y
def er3:AC:=rdc (cO Tryz.prog [] 91 Tryz.f269) _ Z
theorem cx2:FnText Tryz.prog 269 [] 91 2 er3 [(4,none),(5,none)]:=tX Tryz.call269 follows Tryz.func269 O O OO Y Y
def dr0:AC:=rdc (cO Tryz.prog [10] 73 Tryz.f226) _ Z
def cb3:AC:=rdc (lP 0 dr0) _ Z
theorem cu4:FnText Tryz.prog 226 [10] 73 3 dr0 [(6,none),(7,none),(8,none)]:=tX Tryz.call226 follows Tryz.func226 O O OO Y Y
def ej0:AC:=rdc (cO Tryz.prog [] 27 Tryz.f174) _ Z
theorem dn7:FnText Tryz.prog 174 [] 27 2 ej0 [(4,none),(5,none)]:=tX Tryz.call174 follows Tryz.func174 O O OO Y Y
def dt0:AC:=rdc (cO Tryz.prog [] 66 Tryz.f198) _ Z
def cm5:AC:=rdc (lP 0 dt0) _ Z
theorem cx7:FnText Tryz.prog 198 [] 66 3 dt0 [(6,none)]:=tX Tryz.call198 follows Tryz.func198 O O OO Y Y
def en7:AC:=rdc (cO Tryz.prog [] 11 Tryz.f199) _ Z
theorem ct3:FnText Tryz.prog 199 [] 11 1 en7 [(2,none)]:=tX Tryz.call199 follows Tryz.func199 O O OO Y Y
def ep1:AC:=rdc (cO Tryz.prog [] 22 Tryz.f197) _ Z
theorem dk3:FnText Tryz.prog 197 [] 22 5 ep1 [(6,none)]:=tX Tryz.call197 follows Tryz.func197 O O OO Y Y
def er9:AC:=rdc (cO Tryz.prog [3,4,5] 22 Tryz.f126) _ Z
theorem dp8:FnText Tryz.prog 126 [3,4,5] 22 1 er9 [(2,none),(3,some (1,false))]:=tX Tryz.call126 follows Tryz.func126 O O OO Y Y
/-- slices.Clone[[]patchbay/api.Guard,patchbay/api.Guard] -/
def bm1:AC:=
 .seq (r_ [q_ 2 (.move z_)])
 (.seq (.seq (r_ [m_ 3 0,
 q_ 4 (.bin .eql 33 (t_ 3) z_)])
 (.cond (t_ 4)
 (.seq (r_ [q_ 2 (.move z_)])
 (.ret))
 (.skip)))
 (.seq (r_ [q_ 5 (.bslice false 102 2 false []),
 m_ 6 0,
 q_ 7 (.append 33 102 2 16 (t_ 5) (t_ 6)),
 m_ 2 7])
 (.ret)))
theorem bs7:FnText Tryz.prog 128 [] 8 1 bm1 [(2,none)]:=
 ⟨Tryz.call128,follows,Tryz.f128,_,Tryz.func128,rfl,rfl,by decide,by kernel_rfl,by kernel_rfl⟩
/-- slices.Clone[[]patchbay/api.ExprNode,patchbay/api.ExprNode] -/
def ci9:AC:=
 .seq (r_ [q_ 2 (.move z_)])
 (.seq (.seq (r_ [m_ 3 0,
 q_ 4 (.bin .eql 32 (t_ 3) z_)])
 (.cond (t_ 4)
 (.seq (r_ [q_ 2 (.move z_)])
 (.ret))
 (.skip)))
 (.seq (r_ [q_ 5 (.bslice false 113 3 false []),
 m_ 6 0,
 q_ 7 (.append 32 113 3 24 (t_ 5) (t_ 6)),
 m_ 2 7])
 (.ret)))
theorem de0:FnText Tryz.prog 129 [] 8 1 ci9 [(2,none)]:=
 ⟨Tryz.call129,follows,Tryz.f129,_,Tryz.func129,rfl,rfl,by decide,by kernel_rfl,by kernel_rfl⟩
def ei8:AC:=rdc (cO Tryz.prog [1000000] 12 Tryz.f130) _ Z
theorem da4:FnText Tryz.prog 130 [1000000] 12 3 ei8 [(4,none)]:=tX Tryz.call130 follows Tryz.func130 O O OO Y Y
def ds5:AC:=rdc (cO Tryz.prog [7,8,9] 50 Tryz.f127) _ Z
def cf0:AC:=rdc (lP 0 ds5) _ Z
theorem cy4:FnText Tryz.prog 127 [7,8,9] 50 4 ds5 []:=tX Tryz.call127 follows Tryz.func127 O O OO Y Y
def eu7:AC:=rdc (cO Tryz.prog [5,6] 20 Tryz.f54) _ Z
theorem eg3:FnText Tryz.prog 54 [5,6] 20 1 eu7 [(2,none)]:=tX Tryz.call54 follows Tryz.func54 O O OO Y Y
def eo9:AC:=rdc (cO Tryz.prog [] 6 Tryz.f206) _ Z
theorem dh2:FnText Tryz.prog 206 [] 6 1 eo9 [(2,none)]:=tX Tryz.call206 follows Tryz.func206 O O OO Y Y
def en2:AC:=rdc (cO Tryz.prog [] 20 Tryz.f141) _ Z
theorem cs6:FnText Tryz.prog 141 [] 20 2 en2 [(4,none)]:=tX Tryz.call141 follows Tryz.func141 O O OO Y Y
def dq8:AC:=rdc (cO Tryz.prog [] 18 Tryz.f140) _ Z
def cd8:AC:=rdc (lP 0 dq8) _ Z
theorem cu8:FnText Tryz.prog 140 [] 18 1 dq8 [(2,none)]:=tX Tryz.call140 follows Tryz.func140 O O OO Y Y
def em0:AC:=rdc (cO Tryz.prog [] 17 Tryz.f139) _ Z
theorem bu6:FnText Tryz.prog 139 [] 17 2 em0 [(4,none)]:=tX Tryz.call139 follows Tryz.func139 O O OO Y Y
def eq8:AC:=rdc (cO Tryz.prog [] 17 Tryz.f179) _ Z
theorem bw6:FnText Tryz.prog 179 [] 17 2 eq8 [(4,none)]:=tX Tryz.call179 follows Tryz.func179 O O OO Y Y
def el7:AC:=rdc (cO Tryz.prog [] 14 Tryz.f138) _ Z
theorem bw3:FnText Tryz.prog 138 [] 14 2 el7 []:=tX Tryz.call138 follows Tryz.func138 O O OO Y Y
def ah9:AC:=
 .seq (.seq (r_ [m_ 29 5,
 m_ 30 4,
 n_ 31 75 30,
 q_ 32 (.bin .lss 3 (t_ 29) (t_ 31))])
 (.cond (t_ 32)
 (.skip)
 (.exit 2)))
 (.seq (.block 3 (.seq (.region true [m_ 35 4,
 m_ 36 5,
 q_ 37 (.iaddr 2 (t_ 35) (t_ 36)),
 q_ 38 (.load 2 true (t_ 37)),
 m_ 39 4,
 m_ 40 5,
 q_ 41 (.bin .sub 3 (t_ 40) (k_ 1)),
 q_ 42 (.iaddr 2 (t_ 39) (t_ 41)),
 q_ 43 (.load 2 true (t_ 42)),
 q_ 44 (.bin .neq 87 (t_ 38) (t_ 43))])
 (.cond (t_ 44)
 (.seq (r_ [m_ 45 0,
 m_ 46 3,
 m_ 47 4,
 m_ 48 5,
 q_ 49 (.iaddr 2 (t_ 47) (t_ 48)),
 q_ 50 (.load 2 true (t_ 49)),
 q_ 51 (.iaddr 2 (t_ 45) (t_ 46)),
 ⟨none,.store 2 (t_ 51) (t_ 50),none,false⟩])
 (r_ [m_ 52 3,
 q_ 53 (.bin .add 3 (t_ 52) (k_ 1)),
 m_ 3 53]))
 (.skip))))
 (r_ [m_ 33 5,
 q_ 34 (.bin .add 3 (t_ 33) (k_ 1)),
 m_ 5 34]))
def aj8:AC:=
 .seq (.seq (r_ [m_ 10 3,
 m_ 11 0,
 n_ 12 75 11,
 q_ 13 (.bin .lss 3 (t_ 10) (t_ 12))])
 (.cond (t_ 13)
 (.skip)
 (.exit 0)))
 (.seq (.block 1 (.seq (.region true [m_ 16 0,
 m_ 17 3,
 q_ 18 (.iaddr 2 (t_ 16) (t_ 17)),
 q_ 19 (.load 2 true (t_ 18)),
 m_ 20 0,
 m_ 21 3,
 q_ 22 (.bin .sub 3 (t_ 21) (k_ 1)),
 q_ 23 (.iaddr 2 (t_ 20) (t_ 22)),
 q_ 24 (.load 2 true (t_ 23)),
 q_ 25 (.bin .eql 87 (t_ 19) (t_ 24))])
 (.cond (t_ 25)
 (.seq (r_ [m_ 26 0,
 m_ 27 3,
 (q_ 28 (.slice 75 2 (t_ 26) (some (t_ 27)) none none)),
 m_ 4 28])
 (.seq (.seq (r_ [q_ 5 (.move (k_ 1))])
 (.block 2 (.loop ah9)))
 (.seq (r_ [m_ 54 0,
 m_ 55 3,
 (q_ 56 (.slice 75 2 (t_ 54) (some (t_ 55)) none none)),
 ⟨none,.clr 2 (.agg [(.int .i64 0),(.int .i64 0)].toArray) (t_ 56),none,false⟩])
 (.seq (r_ [m_ 57 0,
 m_ 58 3,
 (q_ 59 (.slice 75 2 (t_ 57) none (some (t_ 58)) none)),
 m_ 2 59])
 (.ret)))))
 (.skip))))
 (r_ [m_ 14 3,
 q_ 15 (.bin .add 3 (t_ 14) (k_ 1)),
 m_ 3 15]))
/-- slices.Compact[[]patchbay/api.FieldRef,patchbay/api.FieldRef] -/
def cq5:AC:=
 .seq (r_ [q_ 2 (.move z_)])
 (.seq (.seq (r_ [m_ 6 0,
 n_ 7 75 6,
 q_ 8 (.bin .lss 3 (t_ 7) (k_ 2))])
 (.cond (t_ 8)
 (.seq (r_ [m_ 9 0,
 m_ 2 9])
 (.ret))
 (.skip)))
 (.seq (.seq (r_ [q_ 3 (.move (k_ 1))])
 (.block 0 (.loop aj8)))
 (.seq (r_ [m_ 60 0,
 m_ 2 60])
 (.ret))))
theorem di2:FnText Tryz.prog 142 [] 61 1 cq5 [(2,none)]:=
 ⟨Tryz.call142,follows,Tryz.f142,_,Tryz.func142,rfl,rfl,by decide,by kernel_rfl,by kernel_rfl⟩
def el4:AC:=rdc (cO Tryz.prog [5] 28 Tryz.f66) _ Z
def cz0:AC:=rdc (lP 0 el4) _ Z
theorem eh7:FnText Tryz.prog 66 [5] 28 1 el4 [(2,none)]:=tX Tryz.call66 follows Tryz.func66 O O OO Y Y
def ek5:AC:=rdc (cO Tryz.prog [] 11 Tryz.f143) _ Z
theorem dc7:FnText Tryz.prog 143 [] 11 1 ek5 []:=tX Tryz.call143 follows Tryz.func143 O O OO Y Y
def ai4:AC:=
 .seq (.seq (r_ [m_ 29 5,
 m_ 30 4,
 n_ 31 29 30,
 q_ 32 (.bin .lss 3 (t_ 29) (t_ 31))])
 (.cond (t_ 32)
 (.skip)
 (.exit 2)))
 (.seq (.block 3 (.seq (.region true [m_ 35 4,
 m_ 36 5,
 q_ 37 (.iaddr 1 (t_ 35) (t_ 36)),
 l_ 38 37,
 m_ 39 4,
 m_ 40 5,
 q_ 41 (.bin .sub 3 (t_ 40) (k_ 1)),
 q_ 42 (.iaddr 1 (t_ 39) (t_ 41)),
 l_ 43 42,
 q_ 44 (.bin .neq 3 (t_ 38) (t_ 43))])
 (.cond (t_ 44)
 (.seq (r_ [m_ 45 0,
 m_ 46 3,
 m_ 47 4,
 m_ 48 5,
 q_ 49 (.iaddr 1 (t_ 47) (t_ 48)),
 l_ 50 49,
 q_ 51 (.iaddr 1 (t_ 45) (t_ 46)),
 ⟨none,.store 1 (t_ 51) (t_ 50),none,false⟩])
 (r_ [m_ 52 3,
 q_ 53 (.bin .add 3 (t_ 52) (k_ 1)),
 m_ 3 53]))
 (.skip))))
 (r_ [m_ 33 5,
 q_ 34 (.bin .add 3 (t_ 33) (k_ 1)),
 m_ 5 34]))
def ag8:AC:=
 .seq (.seq (r_ [m_ 10 3,
 m_ 11 0,
 n_ 12 29 11,
 q_ 13 (.bin .lss 3 (t_ 10) (t_ 12))])
 (.cond (t_ 13)
 (.skip)
 (.exit 0)))
 (.seq (.block 1 (.seq (.region true [m_ 16 0,
 m_ 17 3,
 q_ 18 (.iaddr 1 (t_ 16) (t_ 17)),
 l_ 19 18,
 m_ 20 0,
 m_ 21 3,
 q_ 22 (.bin .sub 3 (t_ 21) (k_ 1)),
 q_ 23 (.iaddr 1 (t_ 20) (t_ 22)),
 l_ 24 23,
 q_ 25 (.bin .eql 3 (t_ 19) (t_ 24))])
 (.cond (t_ 25)
 (.seq (r_ [m_ 26 0,
 m_ 27 3,
 (q_ 28 (.slice 29 1 (t_ 26) (some (t_ 27)) none none)),
 m_ 4 28])
 (.seq (.seq (r_ [q_ 5 (.move (k_ 1))])
 (.block 2 (.loop ai4)))
 (.seq (r_ [m_ 54 0,
 m_ 55 3,
 (q_ 56 (.slice 29 1 (t_ 54) (some (t_ 55)) none none)),
 ⟨none,.clr 1 (.int .i64 0) (t_ 56),none,false⟩])
 (.seq (r_ [m_ 57 0,
 m_ 58 3,
 (q_ 59 (.slice 29 1 (t_ 57) none (some (t_ 58)) none)),
 m_ 2 59])
 (.ret)))))
 (.skip))))
 (r_ [m_ 14 3,
 q_ 15 (.bin .add 3 (t_ 14) (k_ 1)),
 m_ 3 15]))
/-- slices.Compact[[]int,int] -/
def cm1:AC:=
 .seq (r_ [q_ 2 (.move z_)])
 (.seq (.seq (r_ [m_ 6 0,
 n_ 7 29 6,
 q_ 8 (.bin .lss 3 (t_ 7) (k_ 2))])
 (.cond (t_ 8)
 (.seq (r_ [m_ 9 0,
 m_ 2 9])
 (.ret))
 (.skip)))
 (.seq (.seq (r_ [q_ 3 (.move (k_ 1))])
 (.block 0 (.loop ag8)))
 (.seq (r_ [m_ 60 0,
 m_ 2 60])
 (.ret))))
theorem cu2:FnText Tryz.prog 144 [] 61 1 cm1 [(2,none)]:=
 ⟨Tryz.call144,follows,Tryz.f144,_,Tryz.func144,rfl,rfl,by decide,by kernel_rfl,by kernel_rfl⟩
def eo0:AC:=rdc (cO Tryz.prog [5] 25 Tryz.f67) _ Z
def dl6:AC:=rdc (lP 0 eo0) _ Z
theorem ed8:FnText Tryz.prog 67 [5] 25 1 eo0 [(2,none)]:=tX Tryz.call67 follows Tryz.func67 O O OO Y Y
def ep4:AC:=rdc (cO Tryz.prog [] 15 Tryz.f137) _ Z
theorem cu9:FnText Tryz.prog 137 [] 15 2 ep4 []:=tX Tryz.call137 follows Tryz.func137 O O OO Y Y
def dr7:AC:=rdc (cO Tryz.prog [2,3,5] 32 Tryz.f163) _ Z
def cb7:AC:=rdc (lP 0 dr7) _ Z
theorem cy5:FnText Tryz.prog 163 [2,3,5] 32 1 dr7 [(2,some (4,true))]:=tX Tryz.call163 follows Tryz.func163 O O OO Y Y
def dr8:AC:=rdc (cO Tryz.prog [] 22 Tryz.f135) _ Z
def cr9:AC:=rdc (lP 0 dr8) _ Z
theorem dg3:FnText Tryz.prog 135 [] 22 2 dr8 [(4,none)]:=tX Tryz.call135 follows Tryz.func135 O O OO Y Y
def ev3:AC:=rdc (cO Tryz.prog [] 22 Tryz.f92) _ Z
theorem eh0:FnText Tryz.prog 92 [] 22 3 ev3 [(6,none)]:=tX Tryz.call92 follows Tryz.func92 O O OO Y Y
def ep6:AC:=rdc (cO Tryz.prog [7] 63 Tryz.f62) _ Z
def di9:AC:=rdc (lP 0 ep6) _ Z
theorem ee1:FnText Tryz.prog 62 [7] 63 2 ep6 [(4,none)]:=tX Tryz.call62 follows Tryz.func62 O O OO Y Y
def ev1:AC:=rdc (cO Tryz.prog [] 8 Tryz.f63) _ Z
theorem ee0:FnText Tryz.prog 63 [] 8 2 ev1 [(4,none)]:=tX Tryz.call63 follows Tryz.func63 O O OO Y Y
def ev5:AC:=rdc (cO Tryz.prog [] 8 Tryz.f25) _ Z
theorem dw1:FnText Tryz.prog 25 [] 8 2 ev5 [(4,none)]:=tX Tryz.call25 follows Tryz.func25 O O OO Y Y
def cs3:AC:=rdc (cO Tryz.prog [10] 61 Tryz.f65) _ Z
def da6:AC:=rdc (lP 0 cs3) _ Z
def cz8:AC:=rdc (lP 1 cs3) _ Z
def cu6:AC:=rdc (lP 2 cs3) _ Z
theorem eb7:FnText Tryz.prog 65 [10] 61 4 cs3 []:=tX Tryz.call65 follows Tryz.func65 O O OO Y Y
def eu8:AC:=rdc (cO Tryz.prog [] 13 Tryz.f68) _ Z
theorem ed7:FnText Tryz.prog 68 [] 13 1 eu8 [(2,none)]:=tX Tryz.call68 follows Tryz.func68 O O OO Y Y
def ep8:AC:=rdc (cO Tryz.prog [4] 24 Tryz.f69) _ Z
theorem ec6:FnText Tryz.prog 69 [4] 24 2 ep8 [(4,some (6,true)),(5,none)]:=tX Tryz.call69 follows Tryz.func69 O O OO Y Y
def er6:AC:=rdc (cO Tryz.prog [] 17 Tryz.f221) _ Z
theorem dm3:FnText Tryz.prog 221 [] 17 1 er6 [(2,none)]:=tX Tryz.call221 follows Tryz.func221 O O OO Y Y
def dt4:AC:=rdc (cO Tryz.prog [] 20 Tryz.f222) _ Z
def cl8:AC:=rdc (lP 0 dt4) _ Z
theorem dk9:FnText Tryz.prog 222 [] 20 2 dt4 [(4,none)]:=tX Tryz.call222 follows Tryz.func222 O O OO Y Y
def ek7:AC:=rdc (cO Tryz.prog [] 9 Tryz.f224) _ Z
theorem cy0:FnText Tryz.prog 224 [] 9 1 ek7 [(2,none)]:=tX Tryz.call224 follows Tryz.func224 O O OO Y Y
def ei5:AC:=rdc (cO Tryz.prog [] 13 Tryz.f223) _ Z
theorem dl1:FnText Tryz.prog 223 [] 13 1 ei5 [(2,none)]:=tX Tryz.call223 follows Tryz.func223 O O OO Y Y
def em2:AC:=rdc (cO Tryz.prog [] 22 Tryz.f169) _ Z
theorem df0:FnText Tryz.prog 169 [] 22 1 em2 [(2,none)]:=tX Tryz.call169 follows Tryz.func169 O O OO Y Y
def ei7:AC:=rdc (cO Tryz.prog [] 9 Tryz.f171) _ Z
theorem cw4:FnText Tryz.prog 171 [] 9 2 ei7 [(3,none)]:=tX Tryz.call171 follows Tryz.func171 O O OO Y Y
def dq6:AC:=rdc (cO Tryz.prog [] 19 Tryz.f225) _ Z
def cm4:AC:=rdc (lP 0 dq6) _ Z
theorem cz4:FnText Tryz.prog 225 [] 19 2 dq6 [(4,none)]:=tX Tryz.call225 follows Tryz.func225 O O OO Y Y
def eo5:AC:=rdc (cO Tryz.prog [] 9 Tryz.f170) _ Z
theorem dj7:FnText Tryz.prog 170 [] 9 2 eo5 [(4,none)]:=tX Tryz.call170 follows Tryz.func170 O O OO Y Y
def dt5:AC:=rdc (cO Tryz.prog [4] 51 Tryz.f103) _ Z
def ch8:AC:=rdc (lP 0 dt5) _ Z
theorem dg7:FnText Tryz.prog 103 [4] 51 1 dt5 [(2,none)]:=tX Tryz.call103 follows Tryz.func103 O O OO Y Y
def ek2:AC:=rdc (cO Tryz.prog [] 46 Tryz.f172) _ Z
theorem ct0:FnText Tryz.prog 172 [] 46 2 ek2 [(4,none),(5,none)]:=tX Tryz.call172 follows Tryz.func172 O O OO Y Y
def eo1:AC:=rdc (cO Tryz.prog [] 24 Tryz.f173) _ Z
theorem dj6:FnText Tryz.prog 173 [] 24 3 eo1 [(6,none)]:=tX Tryz.call173 follows Tryz.func173 O O OO Y Y
def es4:AC:=rdc (cO Tryz.prog [5] 105 Tryz.f104) _ Z
theorem dl3:FnText Tryz.prog 104 [5] 105 2 es4 [(4,none)]:=tX Tryz.call104 follows Tryz.func104 O O OO Y Y
def ek4:AC:=rdc (cO Tryz.prog [6,7,9] 50 Tryz.f35) _ Z
def di1:AC:=rdc (lP 0 ek4) _ Z
theorem dy0:FnText Tryz.prog 35 [6,7,9] 50 2 ek4 [(4,none),(5,none)]:=tX Tryz.call35 follows Tryz.func35 O O OO Y Y
def et3:AC:=rdc (cO Tryz.prog [] 21 Tryz.f108) _ Z
theorem cv2:FnText Tryz.prog 108 [] 21 2 et3 [(4,none)]:=tX Tryz.call108 follows Tryz.func108 O O OO Y Y
def eq5:AC:=rdc (cO Tryz.prog [] 24 Tryz.f109) _ Z
theorem ct1:FnText Tryz.prog 109 [] 24 2 eq5 []:=tX Tryz.call109 follows Tryz.func109 O O OO Y Y
def ek3:AC:=rdc (cO Tryz.prog [1000000] 35 Tryz.f110) _ Z
theorem cy6:FnText Tryz.prog 110 [1000000] 35 1 ek3 [(2,none),(3,none),(4,none)]:=tX Tryz.call110 follows Tryz.func110 O O OO Y Y
def ea0:AC:=rdc (cO Tryz.prog [7,9] 81 Tryz.f37) _ Z
def cu3:AC:=rdc (lP 0 ea0) _ Z
theorem dy1:FnText Tryz.prog 37 [7,9] 81 2 ea0 [(4,none),(5,none),(6,none)]:=tX Tryz.call37 follows Tryz.func37 O O OO Y Y
def ec8:AC:=rdc (cO Tryz.prog [14,6,9] 67 Tryz.f16) _ Z
def cy1:AC:=rdc (lP 0 ec8) _ Z
def cy7:AC:=rdc (lP 1 ec8) _ Z
theorem eb9:FnText Tryz.prog 16 [14,6,9] 67 2 ec8 [(4,none)]:=tX Tryz.call16 follows Tryz.func16 O O OO Y Y
def cs8:AC:=rdc (cO Tryz.prog [7,9] 76 Tryz.f39) _ Z
def dm0:AC:=rdc (lP 0 cs8) _ Z
def dn1:AC:=rdc (lP 1 cs8) _ Z
theorem du0:FnText Tryz.prog 39 [7,9] 76 2 cs8 [(4,none),(5,none),(6,none)]:=tX Tryz.call39 follows Tryz.func39 O O OO Y Y
def es8:AC:=rdc (cO Tryz.prog [5,20] 39 Tryz.f18) _ Z
def dl5:AC:=rdc (lP 0 es8) _ Z
theorem eh8:FnText Tryz.prog 18 [5,20] 39 2 es8 [(4,none)]:=tX Tryz.call18 follows Tryz.func18 O O OO Y Y
def dq7:AC:=rdc (cO Tryz.prog [] 19 Tryz.f201) _ Z
def cg9:AC:=rdc (lP 0 dq7) _ Z
theorem de5:FnText Tryz.prog 201 [] 19 2 dq7 [(4,none)]:=tX Tryz.call201 follows Tryz.func201 O O OO Y Y
def el1:AC:=rdc (cO Tryz.prog [] 9 Tryz.f133) _ Z
theorem cw3:FnText Tryz.prog 133 [] 9 2 el1 [(4,none)]:=tX Tryz.call133 follows Tryz.func133 O O OO Y Y
def ej8:AC:=rdc (cO Tryz.prog [] 17 Tryz.f132) _ Z
theorem dh6:FnText Tryz.prog 132 [] 17 3 ej8 [(4,none)]:=tX Tryz.call132 follows Tryz.func132 O O OO Y Y
def dr5:AC:=rdc (cO Tryz.prog [] 19 Tryz.f200) _ Z
def ci4:AC:=rdc (lP 0 dr5) _ Z
theorem cz6:FnText Tryz.prog 200 [] 19 2 dr5 [(4,none)]:=tX Tryz.call200 follows Tryz.func200 O O OO Y Y
def eq4:AC:=rdc (cO Tryz.prog [] 9 Tryz.f131) _ Z
theorem cu0:FnText Tryz.prog 131 [] 9 2 eq4 [(4,none)]:=tX Tryz.call131 follows Tryz.func131 O O OO Y Y
def ev0:AC:=rdc (cO Tryz.prog [] 32 Tryz.f55) _ Z
theorem dx4:FnText Tryz.prog 55 [] 32 3 ev0 [(6,none)]:=tX Tryz.call55 follows Tryz.func55 O O OO Y Y
def er8:AC:=rdc (cO Tryz.prog [6] 19 Tryz.f99) _ Z
def dd7:AC:=rdc (lP 0 er8) _ Z
theorem dv6:FnText Tryz.prog 99 [6] 19 2 er8 [(4,none)]:=tX Tryz.call99 follows Tryz.func99 O O OO Y Y
def cb4:AC:=rdc (cO Tryz.prog [] 26 Tryz.f100) _ Z
def cn1:AC:=rdc (lP 0 cb4) _ Z
def cp3:AC:=rdc (lP 1 cb4) _ Z
theorem dk2:FnText Tryz.prog 100 [] 26 2 cb4 [(4,none)]:=tX Tryz.call100 follows Tryz.func100 O O OO Y Y
def di4:AC:=rdc (cO Tryz.prog [10] 120 Tryz.f30) _ Z
def de1:AC:=rdc (lP 0 di4) _ Z
def dh1:AC:=rdc (lP 1 di4) _ Z
def dc2:AC:=rdc (lP 2 di4) _ Z
theorem eh3:FnText Tryz.prog 30 [10] 120 2 di4 [(4,none)]:=tX Tryz.call30 follows Tryz.func30 O O OO Y Y
def eq6:AC:=rdc (cO Tryz.prog [] 17 Tryz.f175) _ Z
theorem cv7:FnText Tryz.prog 175 [] 17 1 eq6 [(2,none)]:=tX Tryz.call175 follows Tryz.func175 O O OO Y Y
def eo2:AC:=rdc (cO Tryz.prog [] 9 Tryz.f176) _ Z
theorem cx4:FnText Tryz.prog 176 [] 9 1 eo2 [(2,none)]:=tX Tryz.call176 follows Tryz.func176 O O OO Y Y
def dr3:AC:=rdc (cO Tryz.prog [] 41 Tryz.f105) _ Z
def cc1:AC:=rdc (lP 0 dr3) _ Z
theorem db8:FnText Tryz.prog 105 [] 41 1 dr3 [(2,none)]:=tX Tryz.call105 follows Tryz.func105 O O OO Y Y
def cj6:AC:=rdc (cO Tryz.prog [] 50 Tryz.f106) _ Z
def ck7:AC:=rdc (lP 0 cj6) _ Z
def cd5:AC:=rdc (lP 1 cj6) _ Z
theorem do8:FnText Tryz.prog 106 [] 50 1 cj6 [(2,none)]:=tX Tryz.call106 follows Tryz.func106 O O OO Y Y
def ev6:AC:=rdc (cO Tryz.prog [4] 13 Tryz.f85) _ Z
theorem du2:FnText Tryz.prog 85 [4] 13 2 ev6 [(4,some (10,true))]:=tX Tryz.call85 follows Tryz.func85 O O OO Y Y
def el5:AC:=rdc (cO Tryz.prog [] 46 Tryz.f177) _ Z
theorem di8:FnText Tryz.prog 177 [] 46 2 el5 [(4,none),(5,none)]:=tX Tryz.call177 follows Tryz.func177 O O OO Y Y
def ep3:AC:=rdc (cO Tryz.prog [] 27 Tryz.f219) _ Z
theorem dq0:FnText Tryz.prog 219 [] 27 1 ep3 [(2,none)]:=tX Tryz.call219 follows Tryz.func219 O O OO Y Y
def ei9:AC:=rdc (cO Tryz.prog [] 11 Tryz.f285) _ Z
theorem dm5:FnText Tryz.prog 285 [] 11 1 ei9 [(2,none),(3,none)]:=tX Tryz.call285 follows Tryz.func285 O O OO Y Y
def en5:AC:=rdc (cO Tryz.prog [] 9 Tryz.f183) _ Z
theorem cy8:FnText Tryz.prog 183 [] 9 1 en5 [(2,none)]:=tX Tryz.call183 follows Tryz.func183 O O OO Y Y
def dq9:AC:=rdc (cO Tryz.prog [] 13 Tryz.f184) _ Z
def cn2:AC:=rdc (lP 0 dq9) _ Z
theorem ct4:FnText Tryz.prog 184 [] 13 1 dq9 [(2,none)]:=tX Tryz.call184 follows Tryz.func184 O O OO Y Y
def ep9:AC:=rdc (cO Tryz.prog [] 10 Tryz.f286) _ Z
theorem dn4:FnText Tryz.prog 286 [] 10 1 ep9 [(2,none)]:=tX Tryz.call286 follows Tryz.func286 O O OO Y Y
def ej7:AC:=rdc (cO Tryz.prog [] 91 Tryz.f258) _ Z
theorem do3:FnText Tryz.prog 258 [] 91 2 ej7 [(4,none),(5,none)]:=tX Tryz.call258 follows Tryz.func258 O O OO Y Y
def en3:AC:=rdc (cO Tryz.prog [] 105 Tryz.f259) _ Z
theorem dd4:FnText Tryz.prog 259 [] 105 2 en3 [(4,none),(5,none)]:=tX Tryz.call259 follows Tryz.func259 O O OO Y Y
def dt7:AC:=rdc (cO Tryz.prog [] 85 Tryz.f216) _ Z
def cr1:AC:=rdc (lP 0 dt7) _ Z
theorem dg1:FnText Tryz.prog 216 [] 85 3 dt7 [(6,none),(7,none),(8,none)]:=tX Tryz.call216 follows Tryz.func216 O O OO Y Y
def el6:AC:=rdc (cO Tryz.prog [] 29 Tryz.f156) _ Z
theorem dh8:FnText Tryz.prog 156 [] 29 2 el6 [(4,none),(5,none)]:=tX Tryz.call156 follows Tryz.func156 O O OO Y Y
def ej2:AC:=rdc (cO Tryz.prog [] 23 Tryz.f178) _ Z
theorem dc4:FnText Tryz.prog 178 [] 23 3 ej2 [(6,none)]:=tX Tryz.call178 follows Tryz.func178 O O OO Y Y
def eq3:AC:=rdc (cO Tryz.prog [] 111 Tryz.f107) _ Z
theorem dh7:FnText Tryz.prog 107 [] 111 3 eq3 [(6,none)]:=tX Tryz.call107 follows Tryz.func107 O O OO Y Y
def ek8:AC:=rdc (cO Tryz.prog [6] 68 Tryz.f36) _ Z
def dk8:AC:=rdc (lP 0 ek8) _ Z
theorem ed9:FnText Tryz.prog 36 [6] 68 2 ek8 [(4,none),(5,none)]:=tX Tryz.call36 follows Tryz.func36 O O OO Y Y
def er1:AC:=rdc (cO Tryz.prog [] 24 Tryz.f180) _ Z
theorem dk5:FnText Tryz.prog 180 [] 24 2 er1 [(4,none)]:=tX Tryz.call180 follows Tryz.func180 O O OO Y Y
def dq3:AC:=rdc (cO Tryz.prog [] 49 Tryz.f113) _ Z
def ci8:AC:=rdc (lP 0 dq3) _ Z
theorem di5:FnText Tryz.prog 113 [] 49 2 dq3 [(4,none)]:=tX Tryz.call113 follows Tryz.func113 O O OO Y Y
def dr1:AC:=rdc (cO Tryz.prog [] 48 Tryz.f112) _ Z
def cg2:AC:=rdc (lP 0 dr1) _ Z
theorem dn5:FnText Tryz.prog 112 [] 48 2 dr1 [(4,none)]:=tX Tryz.call112 follows Tryz.func112 O O OO Y Y
def df9:AC:=rdc (cO Tryz.prog [9,12] 91 Tryz.f40) _ Z
def de7:AC:=rdc (lP 0 df9) _ Z
def dp6:AC:=rdc (lP 1 df9) _ Z
theorem dw7:FnText Tryz.prog 40 [9,12] 91 2 df9 [(4,none),(5,none),(6,none)]:=tX Tryz.call40 follows Tryz.func40 O O OO Y Y
def dq5:AC:=rdc (cO Tryz.prog [] 22 Tryz.f147) _ Z
def cj7:AC:=rdc (lP 0 dq5) _ Z
theorem cu7:FnText Tryz.prog 147 [] 22 2 dq5 [(4,none)]:=tX Tryz.call147 follows Tryz.func147 O O OO Y Y
def eu9:AC:=rdc (cO Tryz.prog [] 69 Tryz.f74) _ Z
theorem dv4:FnText Tryz.prog 74 [] 69 2 eu9 [(4,none)]:=tX Tryz.call74 follows Tryz.func74 O O OO Y Y
def eq2:AC:=rdc (cO Tryz.prog [] 52 Tryz.f73) _ Z
def cv3:AC:=rdc (lP 0 eq2) _ Z
theorem dw8:FnText Tryz.prog 73 [] 52 2 eq2 [(4,none)]:=tX Tryz.call73 follows Tryz.func73 O O OO Y Y
def er0:AC:=rdc (cO Tryz.prog [] 21 Tryz.f145) _ Z
theorem da8:FnText Tryz.prog 145 [] 21 2 er0 [(4,none)]:=tX Tryz.call145 follows Tryz.func145 O O OO Y Y
def eo3:AC:=rdc (cO Tryz.prog [] 29 Tryz.f146) _ Z
theorem dp5:FnText Tryz.prog 146 [] 29 2 eo3 [(4,none)]:=tX Tryz.call146 follows Tryz.func146 O O OO Y Y
def da5:AC:=rdc (cO Tryz.prog [] 57 Tryz.f70) _ Z
def dn3:AC:=rdc (lP 0 da5) _ Z
def dl7:AC:=rdc (lP 1 da5) _ Z
def dc3:AC:=rdc (lP 2 da5) _ Z
theorem ec2:FnText Tryz.prog 70 [] 57 5 da5 [(10,none)]:=tX Tryz.call70 follows Tryz.func70 O O OO Y Y
def en6:AC:=rdc (cO Tryz.prog [6] 53 Tryz.f19) _ Z
def dk4:AC:=rdc (lP 0 en6) _ Z
theorem dv7:FnText Tryz.prog 19 [6] 53 2 en6 [(4,none)]:=tX Tryz.call19 follows Tryz.func19 O O OO Y Y
def ej9:AC:=rdc (cO Tryz.prog [] 31 Tryz.f71) _ Z
def dd5:AC:=rdc (lP 0 ej9) _ Z
theorem ee4:FnText Tryz.prog 71 [] 31 1 ej9 [(2,none)]:=tX Tryz.call71 follows Tryz.func71 O O OO Y Y
def et2:AC:=rdc (cO Tryz.prog [] 25 Tryz.f72) _ Z
def dp1:AC:=rdc (lP 0 et2) _ Z
theorem dw2:FnText Tryz.prog 72 [] 25 1 et2 [(2,none)]:=tX Tryz.call72 follows Tryz.func72 O O OO Y Y
def cn3:AC:=rdc (cO Tryz.prog [2,4] 42 Tryz.f111) _ Z
def cf7:AC:=rdc (lP 0 cn3) _ Z
def cn8:AC:=rdc (lP 1 cn3) _ Z
theorem dn2:FnText Tryz.prog 111 [2,4] 42 2 cn3 [(4,some (3,true))]:=tX Tryz.call111 follows Tryz.func111 O O OO Y Y
def dz4:AC:=rdc (cO Tryz.prog [9,12] 107 Tryz.f38) _ Z
def dh9:AC:=rdc (lP 0 dz4) _ Z
theorem ea3:FnText Tryz.prog 38 [9,12] 107 2 dz4 [(4,none),(5,none),(6,none)]:=tX Tryz.call38 follows Tryz.func38 O O OO Y Y
def ed5:AC:=rdc (cO Tryz.prog [6] 82 Tryz.f17) _ Z
def dj9:AC:=rdc (lP 0 ed5) _ Z
def de2:AC:=rdc (lP 1 ed5) _ Z
theorem dy4:FnText Tryz.prog 17 [6] 82 2 ed5 [(4,none)]:=tX Tryz.call17 follows Tryz.func17 O O OO Y Y
def ca0:AC:=rdc (cO Tryz.prog [] 155 Tryz.f12) _ Z
def dh0:AC:=rdc (lP 0 ca0) _ Z
def cw5:AC:=rdc (lP 1 ca0) _ Z
def db5:AC:=rdc (lP 2 ca0) _ Z
def dm1:AC:=rdc (lP 3 ca0) _ Z
def dl4:AC:=rdc (lP 4 ca0) _ Z
theorem ee2:FnText Tryz.prog 12 [] 155 1 ca0 [(2,none)]:=tX Tryz.call12 follows Tryz.func12 O O OO Y Y
def dz1:AC:=rdc (cO Tryz.prog [] 54 Tryz.f96) _ Z
def eu2:AC:=rdc (lP 0 dz1) _ Z
def et4:AC:=rdc (lP 1 dz1) _ Z
theorem du6:FnText Tryz.prog 96 [] 54 1 dz1 [(2,none)]:=tX Tryz.call96 follows Tryz.func96 O O OO Y Y
def es1:AC:=rdc (cO Tryz.prog [] 34 Tryz.f164) _ Z
theorem dp7:FnText Tryz.prog 164 [] 34 3 es1 [(6,none)]:=tX Tryz.call164 follows Tryz.func164 O O OO Y Y
def el3:AC:=rdc (cO Tryz.prog [] 26 Tryz.f32) _ Z
def eu0:AC:=rdc (lP 0 el3) _ Z
theorem dz6:FnText Tryz.prog 32 [] 26 2 el3 [(4,none)]:=tX Tryz.call32 follows Tryz.func32 O O OO Y Y
def co5:AC:=rdc (cO Tryz.prog [] 108 Tryz.f97) _ Z
def et7:AC:=rdc (lP 0 co5) _ Z
def et6:AC:=rdc (lP 1 co5) _ Z
def et9:AC:=rdc (lP 2 co5) _ Z
def et8:AC:=rdc (lP 3 co5) _ Z
theorem dz3:FnText Tryz.prog 97 [] 108 1 co5 [(2,none)]:=tX Tryz.call97 follows Tryz.func97 O O OO Y Y
def bt9:AC:=rdc (cO Tryz.prog [] 143 Tryz.f165) _ Z
def el2:AC:=rdc (lP 0 bt9) _ Z
def en8:AC:=rdc (lP 1 bt9) _ Z
def eo8:AC:=rdc (lP 2 bt9) _ Z
theorem cx0:FnText Tryz.prog 165 [] 143 1 bt9 [(2,none)]:=tX Tryz.call165 follows Tryz.func165 O O OO Y Y
def dv1:AC:=rdc (cO Tryz.prog [] 49 Tryz.f98) _ Z
def eu3:AC:=rdc (lP 0 dv1) _ Z
def et5:AC:=rdc (lP 1 dv1) _ Z
theorem dy3:FnText Tryz.prog 98 [] 49 2 dv1 [(4,none)]:=tX Tryz.call98 follows Tryz.func98 O O OO Y Y
end Go.Proofs.YtmonnlkagniolaaGreat
