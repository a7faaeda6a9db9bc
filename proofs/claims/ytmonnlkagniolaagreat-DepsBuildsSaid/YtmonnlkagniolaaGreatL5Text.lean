/-
 The text of each function of this seat,as the plain library tells it;each by the kernel's own reckoning from the program.
-/
import Derived.Test.YtmonnlkagniolaaGreatPbV
import Derived.Test.YtmonnlkagniolaaGreatRows
set_option linter.unusedVariables false
set_option maxRecDepth 100000
namespace Go.Proofs.YtmonnlkagniolaaGreat
open Go Go.Pb
abbrev q_(d:Nat)(o:AOp):AOper:=⟨some d,o,none,false⟩
abbrev t_(n:Nat):Operand:= .tmp n
abbrev k_(i:Int):Operand:= .const (.int .i64 i)
abbrev m_(d n:Nat):AOper:=⟨some d,.move (.tmp n),none,false⟩
abbrev l_(d n:Nat):AOper:=⟨some d,.load 1 false (.tmp n),none,false⟩
abbrev f_(d a n:Nat):AOper:=⟨some d,.faddr a 1 false (.tmp n),none,false⟩
abbrev n_(d a n:Nat):AOper:=⟨some d,.bi .len [a].toArray 3 [.tmp n],none,false⟩
abbrev r_(l:List AOper):AC:= .region false l
abbrev z_:Operand:= .const (.slice none 0 0)
theorem follows:Tryz.prog.follows .mixedOrders=true:=by kernel_rfl
def dt5:AC:=rdc (cO Tryz.prog [] 20 Tryz.f94) _ Z
def cj2:AC:=rdc (lP 0 dt5) _ Z
theorem ds2:FnText Tryz.prog 94 [] 20 1 dt5 [(2,none)]:=tX Tryz.call94 follows Tryz.func94 O O OO Y Y
def ed1:AC:=rdc (cO Tryz.prog [] 45 Tryz.f95) _ Z
def cp0:AC:=rdc (lP 0 ed1) _ Z
theorem dh0:FnText Tryz.prog 95 [] 45 1 ed1 [(2,none)]:=tX Tryz.call95 follows Tryz.func95 O O OO Y Y
def bn7:AC:=rdc (cO Tryz.prog [7] 179 Tryz.f27) _ Z
def cp3:AC:=rdc (lP 0 bn7) _ Z
def cp1:AC:=rdc (lP 1 bn7) _ Z
def cn9:AC:=rdc (lP 2 bn7) _ Z
def ct8:AC:=rdc (lP 3 bn7) _ Z
def cw5:AC:=rdc (lP 4 bn7) _ Z
theorem dm8:FnText Tryz.prog 27 [7] 179 1 bn7 [(2,none)]:=tX Tryz.call27 follows Tryz.func27 O O OO Y Y
def dz1:AC:=rdc (cO Tryz.prog [] 29 Tryz.f28) _ Z
def ch5:AC:=rdc (lP 0 dz1) _ Z
theorem dp2:FnText Tryz.prog 28 [] 29 1 dz1 [(2,none)]:=tX Tryz.call28 follows Tryz.func28 O O OO Y Y
def ee7:AC:=rdc (cO Tryz.prog [] 29 Tryz.f29) _ Z
theorem dn7:FnText Tryz.prog 29 [] 29 0 ee7 [(0,none)]:=tX Tryz.call29 follows Tryz.func29 O O OO Y Y
def dz0:AC:=rdc (cO Tryz.prog [] 6 Tryz.f206) _ Z
theorem cr4:FnText Tryz.prog 206 [] 6 1 dz0 [(2,none)]:=tX Tryz.call206 follows Tryz.func206 O O OO Y Y
def dz7:AC:=rdc (cO Tryz.prog [] 20 Tryz.f141) _ Z
theorem ch7:FnText Tryz.prog 141 [] 20 2 dz7 [(4,none)]:=tX Tryz.call141 follows Tryz.func141 O O OO Y Y
def de7:AC:=rdc (cO Tryz.prog [] 18 Tryz.f140) _ Z
def bs2:AC:=rdc (lP 0 de7) _ Z
theorem cz0:FnText Tryz.prog 140 [] 18 1 de7 [(2,none)]:=tX Tryz.call140 follows Tryz.func140 O O OO Y Y
def du5:AC:=rdc (cO Tryz.prog [] 17 Tryz.f139) _ Z
theorem bj7:FnText Tryz.prog 139 [] 17 2 du5 [(4,none)]:=tX Tryz.call139 follows Tryz.func139 O O OO Y Y
def dy2:AC:=rdc (cO Tryz.prog [] 17 Tryz.f179) _ Z
theorem bj5:FnText Tryz.prog 179 [] 17 2 dy2 [(4,none)]:=tX Tryz.call179 follows Tryz.func179 O O OO Y Y
def dv1:AC:=rdc (cO Tryz.prog [] 14 Tryz.f138) _ Z
theorem bk7:FnText Tryz.prog 138 [] 14 2 dv1 []:=tX Tryz.call138 follows Tryz.func138 O O OO Y Y
def aa8:AC:=
 .seq (.seq (r_ [m_ 29 5,
 m_ 30 4,
 n_ 31 75 30,
 q_ 32 (.bin .lss 3 (t_ 29) (t_ 31))])
 (.cond (t_ 32)
 (.skip)
 (.exit 2)))
 (.seq (.block 3 (.seq (.region true [m_ 35 4,
 m_ 36 5,
 q_ 37 (.iaddr 2 (t_ 35) (t_ 36)),
 q_ 38 (.load 2 true (t_ 37)),
 m_ 39 4,
 m_ 40 5,
 q_ 41 (.bin .sub 3 (t_ 40) (k_ 1)),
 q_ 42 (.iaddr 2 (t_ 39) (t_ 41)),
 q_ 43 (.load 2 true (t_ 42)),
 q_ 44 (.bin .neq 87 (t_ 38) (t_ 43))])
 (.cond (t_ 44)
 (.seq (r_ [m_ 45 0,
 m_ 46 3,
 m_ 47 4,
 m_ 48 5,
 q_ 49 (.iaddr 2 (t_ 47) (t_ 48)),
 q_ 50 (.load 2 true (t_ 49)),
 q_ 51 (.iaddr 2 (t_ 45) (t_ 46)),
 ⟨none,.store 2 (t_ 51) (t_ 50),none,false⟩])
 (r_ [m_ 52 3,
 q_ 53 (.bin .add 3 (t_ 52) (k_ 1)),
 m_ 3 53]))
 (.skip))))
 (r_ [m_ 33 5,
 q_ 34 (.bin .add 3 (t_ 33) (k_ 1)),
 m_ 5 34]))
def ac7:AC:=
 .seq (.seq (r_ [m_ 10 3,
 m_ 11 0,
 n_ 12 75 11,
 q_ 13 (.bin .lss 3 (t_ 10) (t_ 12))])
 (.cond (t_ 13)
 (.skip)
 (.exit 0)))
 (.seq (.block 1 (.seq (.region true [m_ 16 0,
 m_ 17 3,
 q_ 18 (.iaddr 2 (t_ 16) (t_ 17)),
 q_ 19 (.load 2 true (t_ 18)),
 m_ 20 0,
 m_ 21 3,
 q_ 22 (.bin .sub 3 (t_ 21) (k_ 1)),
 q_ 23 (.iaddr 2 (t_ 20) (t_ 22)),
 q_ 24 (.load 2 true (t_ 23)),
 q_ 25 (.bin .eql 87 (t_ 19) (t_ 24))])
 (.cond (t_ 25)
 (.seq (r_ [m_ 26 0,
 m_ 27 3,
 (q_ 28 (.slice 75 2 (t_ 26) (some (t_ 27)) none none)),
 m_ 4 28])
 (.seq (.seq (r_ [q_ 5 (.move (k_ 1))])
 (.block 2 (.loop aa8)))
 (.seq (r_ [m_ 54 0,
 m_ 55 3,
 (q_ 56 (.slice 75 2 (t_ 54) (some (t_ 55)) none none)),
 ⟨none,.clr 2 (.agg [(.int .i64 0),(.int .i64 0)].toArray) (t_ 56),none,false⟩])
 (.seq (r_ [m_ 57 0,
 m_ 58 3,
 (q_ 59 (.slice 75 2 (t_ 57) none (some (t_ 58)) none)),
 m_ 2 59])
 (.ret)))))
 (.skip))))
 (r_ [m_ 14 3,
 q_ 15 (.bin .add 3 (t_ 14) (k_ 1)),
 m_ 3 15]))
/-- slices.Compact[[]patchbay/api.FieldRef,patchbay/api.FieldRef] -/
def bs5:AC:=
 .seq (r_ [q_ 2 (.move z_)])
 (.seq (.seq (r_ [m_ 6 0,
 n_ 7 75 6,
 q_ 8 (.bin .lss 3 (t_ 7) (k_ 2))])
 (.cond (t_ 8)
 (.seq (r_ [m_ 9 0,
 m_ 2 9])
 (.ret))
 (.skip)))
 (.seq (.seq (r_ [q_ 3 (.move (k_ 1))])
 (.block 0 (.loop ac7)))
 (.seq (r_ [m_ 60 0,
 m_ 2 60])
 (.ret))))
theorem da8:FnText Tryz.prog 142 [] 61 1 bs5 [(2,none)]:=
 ⟨Tryz.call142,follows,Tryz.f142,_,Tryz.func142,rfl,rfl,by decide,by kernel_rfl,by kernel_rfl⟩
def dy7:AC:=rdc (cO Tryz.prog [5] 28 Tryz.f66) _ Z
def ct6:AC:=rdc (lP 0 dy7) _ Z
theorem dl0:FnText Tryz.prog 66 [5] 28 1 dy7 [(2,none)]:=tX Tryz.call66 follows Tryz.func66 O O OO Y Y
def dy1:AC:=rdc (cO Tryz.prog [] 11 Tryz.f143) _ Z
theorem cq2:FnText Tryz.prog 143 [] 11 1 dy1 []:=tX Tryz.call143 follows Tryz.func143 O O OO Y Y
def aa5:AC:=
 .seq (.seq (r_ [m_ 29 5,
 m_ 30 4,
 n_ 31 29 30,
 q_ 32 (.bin .lss 3 (t_ 29) (t_ 31))])
 (.cond (t_ 32)
 (.skip)
 (.exit 2)))
 (.seq (.block 3 (.seq (.region true [m_ 35 4,
 m_ 36 5,
 q_ 37 (.iaddr 1 (t_ 35) (t_ 36)),
 l_ 38 37,
 m_ 39 4,
 m_ 40 5,
 q_ 41 (.bin .sub 3 (t_ 40) (k_ 1)),
 q_ 42 (.iaddr 1 (t_ 39) (t_ 41)),
 l_ 43 42,
 q_ 44 (.bin .neq 3 (t_ 38) (t_ 43))])
 (.cond (t_ 44)
 (.seq (r_ [m_ 45 0,
 m_ 46 3,
 m_ 47 4,
 m_ 48 5,
 q_ 49 (.iaddr 1 (t_ 47) (t_ 48)),
 l_ 50 49,
 q_ 51 (.iaddr 1 (t_ 45) (t_ 46)),
 ⟨none,.store 1 (t_ 51) (t_ 50),none,false⟩])
 (r_ [m_ 52 3,
 q_ 53 (.bin .add 3 (t_ 52) (k_ 1)),
 m_ 3 53]))
 (.skip))))
 (r_ [m_ 33 5,
 q_ 34 (.bin .add 3 (t_ 33) (k_ 1)),
 m_ 5 34]))
def ad1:AC:=
 .seq (.seq (r_ [m_ 10 3,
 m_ 11 0,
 n_ 12 29 11,
 q_ 13 (.bin .lss 3 (t_ 10) (t_ 12))])
 (.cond (t_ 13)
 (.skip)
 (.exit 0)))
 (.seq (.block 1 (.seq (.region true [m_ 16 0,
 m_ 17 3,
 q_ 18 (.iaddr 1 (t_ 16) (t_ 17)),
 l_ 19 18,
 m_ 20 0,
 m_ 21 3,
 q_ 22 (.bin .sub 3 (t_ 21) (k_ 1)),
 q_ 23 (.iaddr 1 (t_ 20) (t_ 22)),
 l_ 24 23,
 q_ 25 (.bin .eql 3 (t_ 19) (t_ 24))])
 (.cond (t_ 25)
 (.seq (r_ [m_ 26 0,
 m_ 27 3,
 (q_ 28 (.slice 29 1 (t_ 26) (some (t_ 27)) none none)),
 m_ 4 28])
 (.seq (.seq (r_ [q_ 5 (.move (k_ 1))])
 (.block 2 (.loop aa5)))
 (.seq (r_ [m_ 54 0,
 m_ 55 3,
 (q_ 56 (.slice 29 1 (t_ 54) (some (t_ 55)) none none)),
 ⟨none,.clr 1 (.int .i64 0) (t_ 56),none,false⟩])
 (.seq (r_ [m_ 57 0,
 m_ 58 3,
 (q_ 59 (.slice 29 1 (t_ 57) none (some (t_ 58)) none)),
 m_ 2 59])
 (.ret)))))
 (.skip))))
 (r_ [m_ 14 3,
 q_ 15 (.bin .add 3 (t_ 14) (k_ 1)),
 m_ 3 15]))
/-- slices.Compact[[]int,int] -/
def br6:AC:=
 .seq (r_ [q_ 2 (.move z_)])
 (.seq (.seq (r_ [m_ 6 0,
 n_ 7 29 6,
 q_ 8 (.bin .lss 3 (t_ 7) (k_ 2))])
 (.cond (t_ 8)
 (.seq (r_ [m_ 9 0,
 m_ 2 9])
 (.ret))
 (.skip)))
 (.seq (.seq (r_ [q_ 3 (.move (k_ 1))])
 (.block 0 (.loop ad1)))
 (.seq (r_ [m_ 60 0,
 m_ 2 60])
 (.ret))))
theorem ci7:FnText Tryz.prog 144 [] 61 1 br6 [(2,none)]:=
 ⟨Tryz.call144,follows,Tryz.f144,_,Tryz.func144,rfl,rfl,by decide,by kernel_rfl,by kernel_rfl⟩
def dt8:AC:=rdc (cO Tryz.prog [5] 25 Tryz.f67) _ Z
def cv0:AC:=rdc (lP 0 dt8) _ Z
theorem di3:FnText Tryz.prog 67 [5] 25 1 dt8 [(2,none)]:=tX Tryz.call67 follows Tryz.func67 O O OO Y Y
def ec9:AC:=rdc (cO Tryz.prog [] 15 Tryz.f137) _ Z
theorem cv3:FnText Tryz.prog 137 [] 15 2 ec9 []:=tX Tryz.call137 follows Tryz.func137 O O OO Y Y
def dc5:AC:=rdc (cO Tryz.prog [2,3,5] 32 Tryz.f163) _ Z
def bz7:AC:=rdc (lP 0 dc5) _ Z
theorem cs0:FnText Tryz.prog 163 [2,3,5] 32 1 dc5 [(2,some (4,true))]:=tX Tryz.call163 follows Tryz.func163 O O OO Y Y
def dc0:AC:=rdc (cO Tryz.prog [] 22 Tryz.f135) _ Z
def bx9:AC:=rdc (lP 0 dc0) _ Z
theorem cl9:FnText Tryz.prog 135 [] 22 2 dc0 [(4,none)]:=tX Tryz.call135 follows Tryz.func135 O O OO Y Y
def ef2:AC:=rdc (cO Tryz.prog [] 22 Tryz.f92) _ Z
theorem dq7:FnText Tryz.prog 92 [] 22 3 ef2 [(6,none)]:=tX Tryz.call92 follows Tryz.func92 O O OO Y Y
def dv9:AC:=rdc (cO Tryz.prog [7] 63 Tryz.f62) _ Z
def cs7:AC:=rdc (lP 0 dv9) _ Z
theorem do9:FnText Tryz.prog 62 [7] 63 2 dv9 [(4,none)]:=tX Tryz.call62 follows Tryz.func62 O O OO Y Y
def ef1:AC:=rdc (cO Tryz.prog [] 8 Tryz.f63) _ Z
theorem dr4:FnText Tryz.prog 63 [] 8 2 ef1 [(4,none)]:=tX Tryz.call63 follows Tryz.func63 O O OO Y Y
def ee9:AC:=rdc (cO Tryz.prog [] 8 Tryz.f25) _ Z
theorem dh4:FnText Tryz.prog 25 [] 8 2 ee9 [(4,none)]:=tX Tryz.call25 follows Tryz.func25 O O OO Y Y
def co1:AC:=rdc (cO Tryz.prog [10] 61 Tryz.f65) _ Z
def cn0:AC:=rdc (lP 0 co1) _ Z
def co3:AC:=rdc (lP 1 co1) _ Z
def cy1:AC:=rdc (lP 2 co1) _ Z
theorem ds1:FnText Tryz.prog 65 [10] 61 4 co1 []:=tX Tryz.call65 follows Tryz.func65 O O OO Y Y
def ef0:AC:=rdc (cO Tryz.prog [] 13 Tryz.f68) _ Z
theorem dh2:FnText Tryz.prog 68 [] 13 1 ef0 [(2,none)]:=tX Tryz.call68 follows Tryz.func68 O O OO Y Y
def ec7:AC:=rdc (cO Tryz.prog [4] 24 Tryz.f69) _ Z
theorem di6:FnText Tryz.prog 69 [4] 24 2 ec7 [(4,some (6,true)),(5,none)]:=tX Tryz.call69 follows Tryz.func69 O O OO Y Y
def dz8:AC:=rdc (cO Tryz.prog [] 17 Tryz.f221) _ Z
theorem ci2:FnText Tryz.prog 221 [] 17 1 dz8 [(2,none)]:=tX Tryz.call221 follows Tryz.func221 O O OO Y Y
def dd4:AC:=rdc (cO Tryz.prog [] 20 Tryz.f222) _ Z
def bx5:AC:=rdc (lP 0 dd4) _ Z
theorem cg4:FnText Tryz.prog 222 [] 20 2 dd4 [(4,none)]:=tX Tryz.call222 follows Tryz.func222 O O OO Y Y
def eb9:AC:=rdc (cO Tryz.prog [] 9 Tryz.f224) _ Z
theorem ci6:FnText Tryz.prog 224 [] 9 1 eb9 [(2,none)]:=tX Tryz.call224 follows Tryz.func224 O O OO Y Y
def du2:AC:=rdc (cO Tryz.prog [] 13 Tryz.f223) _ Z
theorem cp6:FnText Tryz.prog 223 [] 13 1 du2 [(2,none)]:=tX Tryz.call223 follows Tryz.func223 O O OO Y Y
def eb0:AC:=rdc (cO Tryz.prog [] 22 Tryz.f169) _ Z
theorem cy2:FnText Tryz.prog 169 [] 22 1 eb0 [(2,none)]:=tX Tryz.call169 follows Tryz.func169 O O OO Y Y
def dw2:AC:=rdc (cO Tryz.prog [] 9 Tryz.f171) _ Z
theorem da6:FnText Tryz.prog 171 [] 9 2 dw2 [(3,none)]:=tX Tryz.call171 follows Tryz.func171 O O OO Y Y
def dc9:AC:=rdc (cO Tryz.prog [] 19 Tryz.f225) _ Z
def by4:AC:=rdc (lP 0 dc9) _ Z
theorem cp8:FnText Tryz.prog 225 [] 19 2 dc9 [(4,none)]:=tX Tryz.call225 follows Tryz.func225 O O OO Y Y
def du6:AC:=rdc (cO Tryz.prog [] 9 Tryz.f170) _ Z
theorem cw8:FnText Tryz.prog 170 [] 9 2 du6 [(4,none)]:=tX Tryz.call170 follows Tryz.func170 O O OO Y Y
def dc7:AC:=rdc (cO Tryz.prog [4] 51 Tryz.f103) _ Z
def bx2:AC:=rdc (lP 0 dc7) _ Z
theorem cg2:FnText Tryz.prog 103 [4] 51 1 dc7 [(2,none)]:=tX Tryz.call103 follows Tryz.func103 O O OO Y Y
def dz2:AC:=rdc (cO Tryz.prog [] 46 Tryz.f172) _ Z
theorem da2:FnText Tryz.prog 172 [] 46 2 dz2 [(4,none),(5,none)]:=tX Tryz.call172 follows Tryz.func172 O O OO Y Y
def dx9:AC:=rdc (cO Tryz.prog [] 25 Tryz.f267) _ Z
theorem cu9:FnText Tryz.prog 267 [] 25 1 dx9 [(2,none)]:=tX Tryz.call267 follows Tryz.func267 O O OO Y Y
def dy3:AC:=rdc (cO Tryz.prog [] 11 Tryz.f287) _ Z
theorem cy0:FnText Tryz.prog 287 [] 11 1 dy3 [(2,none),(3,none)]:=tX Tryz.call287 follows Tryz.func287 O O OO Y Y
def de4:AC:=rdc (cO Tryz.prog [] 18 Tryz.f181) _ Z
def ca9:AC:=rdc (lP 0 de4) _ Z
theorem cu3:FnText Tryz.prog 181 [] 18 1 de4 [(2,none)]:=tX Tryz.call181 follows Tryz.func181 O O OO Y Y
def dt6:AC:=rdc (cO Tryz.prog [] 10 Tryz.f182) _ Z
theorem ck6:FnText Tryz.prog 182 [] 10 1 dt6 [(2,none)]:=tX Tryz.call182 follows Tryz.func182 O O OO Y Y
def db8:AC:=rdc (cO Tryz.prog [6] 45 Tryz.f288) _ Z
theorem cy8:FnText Tryz.prog 288 [6] 45 3 db8 [(6,some (2,true)),(7,none)]:=tX Tryz.call288 follows Tryz.func288 O O OO Y Y
def dx6:AC:=rdc (cO Tryz.prog [8] 90 Tryz.f268) _ Z
theorem ck1:FnText Tryz.prog 268 [8] 90 2 dx6 [(4,none),(5,none)]:=tX Tryz.call268 follows Tryz.func268 O O OO Y Y
def dw8:AC:=rdc (cO Tryz.prog [] 91 Tryz.f269) _ Z
theorem cn1:FnText Tryz.prog 269 [] 91 2 dw8 [(4,none),(5,none)]:=tX Tryz.call269 follows Tryz.func269 O O OO Y Y
def db7:AC:=rdc (cO Tryz.prog [10] 73 Tryz.f226) _ Z
def bt1:AC:=rdc (lP 0 db7) _ Z
theorem co2:FnText Tryz.prog 226 [10] 73 3 db7 [(6,none),(7,none),(8,none)]:=tX Tryz.call226 follows Tryz.func226 O O OO Y Y
def ea2:AC:=rdc (cO Tryz.prog [] 27 Tryz.f174) _ Z
theorem cn5:FnText Tryz.prog 174 [] 27 2 ea2 [(4,none),(5,none)]:=tX Tryz.call174 follows Tryz.func174 O O OO Y Y
def du0:AC:=rdc (cO Tryz.prog [] 24 Tryz.f173) _ Z
theorem cl3:FnText Tryz.prog 173 [] 24 3 du0 [(6,none)]:=tX Tryz.call173 follows Tryz.func173 O O OO Y Y
def dv0:AC:=rdc (cO Tryz.prog [5] 105 Tryz.f104) _ Z
theorem ck8:FnText Tryz.prog 104 [5] 105 2 dv0 [(4,none)]:=tX Tryz.call104 follows Tryz.func104 O O OO Y Y
def dx8:AC:=rdc (cO Tryz.prog [6,7,9] 50 Tryz.f35) _ Z
def co8:AC:=rdc (lP 0 dx8) _ Z
theorem dj1:FnText Tryz.prog 35 [6,7,9] 50 2 dx8 [(4,none),(5,none)]:=tX Tryz.call35 follows Tryz.func35 O O OO Y Y
def eb5:AC:=rdc (cO Tryz.prog [] 21 Tryz.f108) _ Z
theorem ch4:FnText Tryz.prog 108 [] 21 2 eb5 [(4,none)]:=tX Tryz.call108 follows Tryz.func108 O O OO Y Y
def ec5:AC:=rdc (cO Tryz.prog [] 24 Tryz.f109) _ Z
theorem co4:FnText Tryz.prog 109 [] 24 2 ec5 []:=tX Tryz.call109 follows Tryz.func109 O O OO Y Y
def dy8:AC:=rdc (cO Tryz.prog [1000000] 35 Tryz.f110) _ Z
theorem ch9:FnText Tryz.prog 110 [1000000] 35 1 dy8 [(2,none),(3,none),(4,none)]:=tX Tryz.call110 follows Tryz.func110 O O OO Y Y
def dp3:AC:=rdc (cO Tryz.prog [7,9] 81 Tryz.f37) _ Z
def cn3:AC:=rdc (lP 0 dp3) _ Z
theorem dg6:FnText Tryz.prog 37 [7,9] 81 2 dp3 [(4,none),(5,none),(6,none)]:=tX Tryz.call37 follows Tryz.func37 O O OO Y Y
def ds5:AC:=rdc (cO Tryz.prog [14,6,9] 67 Tryz.f16) _ Z
def cv5:AC:=rdc (lP 0 ds5) _ Z
def cz8:AC:=rdc (lP 1 ds5) _ Z
theorem di2:FnText Tryz.prog 16 [14,6,9] 67 2 ds5 [(4,none)]:=tX Tryz.call16 follows Tryz.func16 O O OO Y Y
def cx6:AC:=rdc (cO Tryz.prog [7,9] 76 Tryz.f39) _ Z
def cp4:AC:=rdc (lP 0 cx6) _ Z
def cp2:AC:=rdc (lP 1 cx6) _ Z
theorem dj7:FnText Tryz.prog 39 [7,9] 76 2 cx6 [(4,none),(5,none),(6,none)]:=tX Tryz.call39 follows Tryz.func39 O O OO Y Y
def dt2:AC:=rdc (cO Tryz.prog [5,20] 39 Tryz.f18) _ Z
def ci0:AC:=rdc (lP 0 dt2) _ Z
theorem dn4:FnText Tryz.prog 18 [5,20] 39 2 dt2 [(4,none)]:=tX Tryz.call18 follows Tryz.func18 O O OO Y Y
def db6:AC:=rdc (cO Tryz.prog [] 19 Tryz.f201) _ Z
def ce8:AC:=rdc (lP 0 db6) _ Z
theorem cj9:FnText Tryz.prog 201 [] 19 2 db6 [(4,none)]:=tX Tryz.call201 follows Tryz.func201 O O OO Y Y
def du3:AC:=rdc (cO Tryz.prog [] 9 Tryz.f133) _ Z
theorem da5:FnText Tryz.prog 133 [] 9 2 du3 [(4,none)]:=tX Tryz.call133 follows Tryz.func133 O O OO Y Y
def dw0:AC:=rdc (cO Tryz.prog [] 17 Tryz.f132) _ Z
theorem cm8:FnText Tryz.prog 132 [] 17 3 dw0 [(4,none)]:=tX Tryz.call132 follows Tryz.func132 O O OO Y Y
def de5:AC:=rdc (cO Tryz.prog [] 19 Tryz.f200) _ Z
def ce9:AC:=rdc (lP 0 de5) _ Z
theorem cm2:FnText Tryz.prog 200 [] 19 2 de5 [(4,none)]:=tX Tryz.call200 follows Tryz.func200 O O OO Y Y
def dt0:AC:=rdc (cO Tryz.prog [] 9 Tryz.f131) _ Z
theorem ch2:FnText Tryz.prog 131 [] 9 2 dt0 [(4,none)]:=tX Tryz.call131 follows Tryz.func131 O O OO Y Y
def ee6:AC:=rdc (cO Tryz.prog [] 32 Tryz.f55) _ Z
theorem de8:FnText Tryz.prog 55 [] 32 3 ee6 [(6,none)]:=tX Tryz.call55 follows Tryz.func55 O O OO Y Y
def eb6:AC:=rdc (cO Tryz.prog [6] 19 Tryz.f99) _ Z
def cz2:AC:=rdc (lP 0 eb6) _ Z
theorem df1:FnText Tryz.prog 99 [6] 19 2 eb6 [(4,none)]:=tX Tryz.call99 follows Tryz.func99 O O OO Y Y
def cd7:AC:=rdc (cO Tryz.prog [] 26 Tryz.f100) _ Z
def cd3:AC:=rdc (lP 0 cd7) _ Z
def cd9:AC:=rdc (lP 1 cd7) _ Z
theorem cx5:FnText Tryz.prog 100 [] 26 2 cd7 [(4,none)]:=tX Tryz.call100 follows Tryz.func100 O O OO Y Y
def cg1:AC:=rdc (cO Tryz.prog [10] 120 Tryz.f30) _ Z
def cr5:AC:=rdc (lP 0 cg1) _ Z
def cs5:AC:=rdc (lP 1 cg1) _ Z
def cq0:AC:=rdc (lP 2 cg1) _ Z
theorem dl7:FnText Tryz.prog 30 [10] 120 2 cg1 [(4,none)]:=tX Tryz.call30 follows Tryz.func30 O O OO Y Y
def dt3:AC:=rdc (cO Tryz.prog [] 17 Tryz.f175) _ Z
theorem cu7:FnText Tryz.prog 175 [] 17 1 dt3 [(2,none)]:=tX Tryz.call175 follows Tryz.func175 O O OO Y Y
def dw1:AC:=rdc (cO Tryz.prog [] 9 Tryz.f176) _ Z
theorem db1:FnText Tryz.prog 176 [] 9 1 dw1 [(2,none)]:=tX Tryz.call176 follows Tryz.func176 O O OO Y Y
def dc4:AC:=rdc (cO Tryz.prog [] 41 Tryz.f105) _ Z
def ce1:AC:=rdc (lP 0 dc4) _ Z
theorem cz3:FnText Tryz.prog 105 [] 41 1 dc4 [(2,none)]:=tX Tryz.call105 follows Tryz.func105 O O OO Y Y
def cb6:AC:=rdc (cO Tryz.prog [] 50 Tryz.f106) _ Z
def bs0:AC:=rdc (lP 0 cb6) _ Z
def bs9:AC:=rdc (lP 1 cb6) _ Z
theorem ct2:FnText Tryz.prog 106 [] 50 1 cb6 [(2,none)]:=tX Tryz.call106 follows Tryz.func106 O O OO Y Y
def ee5:AC:=rdc (cO Tryz.prog [4] 13 Tryz.f85) _ Z
theorem df7:FnText Tryz.prog 85 [4] 13 2 ee5 [(4,some (10,true))]:=tX Tryz.call85 follows Tryz.func85 O O OO Y Y
def dv8:AC:=rdc (cO Tryz.prog [] 46 Tryz.f177) _ Z
theorem cu1:FnText Tryz.prog 177 [] 46 2 dv8 [(4,none),(5,none)]:=tX Tryz.call177 follows Tryz.func177 O O OO Y Y
def dx0:AC:=rdc (cO Tryz.prog [] 27 Tryz.f219) _ Z
theorem cl2:FnText Tryz.prog 219 [] 27 1 dx0 [(2,none)]:=tX Tryz.call219 follows Tryz.func219 O O OO Y Y
def eb4:AC:=rdc (cO Tryz.prog [] 11 Tryz.f285) _ Z
theorem ct3:FnText Tryz.prog 285 [] 11 1 eb4 [(2,none),(3,none)]:=tX Tryz.call285 follows Tryz.func285 O O OO Y Y
def dx1:AC:=rdc (cO Tryz.prog [] 9 Tryz.f183) _ Z
theorem cy6:FnText Tryz.prog 183 [] 9 1 dx1 [(2,none)]:=tX Tryz.call183 follows Tryz.func183 O O OO Y Y
def dd7:AC:=rdc (cO Tryz.prog [] 13 Tryz.f184) _ Z
def bu6:AC:=rdc (lP 0 dd7) _ Z
theorem cx4:FnText Tryz.prog 184 [] 13 1 dd7 [(2,none)]:=tX Tryz.call184 follows Tryz.func184 O O OO Y Y
def ec0:AC:=rdc (cO Tryz.prog [] 10 Tryz.f286) _ Z
theorem cw0:FnText Tryz.prog 286 [] 10 1 ec0 [(2,none)]:=tX Tryz.call286 follows Tryz.func286 O O OO Y Y
def dw3:AC:=rdc (cO Tryz.prog [] 91 Tryz.f258) _ Z
theorem cv8:FnText Tryz.prog 258 [] 91 2 dw3 [(4,none),(5,none)]:=tX Tryz.call258 follows Tryz.func258 O O OO Y Y
def ea0:AC:=rdc (cO Tryz.prog [] 105 Tryz.f259) _ Z
theorem da0:FnText Tryz.prog 259 [] 105 2 ea0 [(4,none),(5,none)]:=tX Tryz.call259 follows Tryz.func259 O O OO Y Y
def db9:AC:=rdc (cO Tryz.prog [] 85 Tryz.f216) _ Z
def ca1:AC:=rdc (lP 0 db9) _ Z
theorem cn4:FnText Tryz.prog 216 [] 85 3 db9 [(6,none),(7,none),(8,none)]:=tX Tryz.call216 follows Tryz.func216 O O OO Y Y
def dy6:AC:=rdc (cO Tryz.prog [] 29 Tryz.f156) _ Z
theorem cr3:FnText Tryz.prog 156 [] 29 2 dy6 [(4,none),(5,none)]:=tX Tryz.call156 follows Tryz.func156 O O OO Y Y
def ec6:AC:=rdc (cO Tryz.prog [] 23 Tryz.f178) _ Z
theorem cl5:FnText Tryz.prog 178 [] 23 3 ec6 [(6,none)]:=tX Tryz.call178 follows Tryz.func178 O O OO Y Y
def dv4:AC:=rdc (cO Tryz.prog [] 111 Tryz.f107) _ Z
theorem cw6:FnText Tryz.prog 107 [] 111 3 dv4 [(6,none)]:=tX Tryz.call107 follows Tryz.func107 O O OO Y Y
def dz4:AC:=rdc (cO Tryz.prog [6] 68 Tryz.f36) _ Z
def cj0:AC:=rdc (lP 0 dz4) _ Z
theorem dp1:FnText Tryz.prog 36 [6] 68 2 dz4 [(4,none),(5,none)]:=tX Tryz.call36 follows Tryz.func36 O O OO Y Y
def dv2:AC:=rdc (cO Tryz.prog [] 24 Tryz.f180) _ Z
theorem cy9:FnText Tryz.prog 180 [] 24 2 dv2 [(4,none)]:=tX Tryz.call180 follows Tryz.func180 O O OO Y Y
def de1:AC:=rdc (cO Tryz.prog [] 49 Tryz.f113) _ Z
def br2:AC:=rdc (lP 0 de1) _ Z
theorem cg6:FnText Tryz.prog 113 [] 49 2 de1 [(4,none)]:=tX Tryz.call113 follows Tryz.func113 O O OO Y Y
def dc6:AC:=rdc (cO Tryz.prog [] 48 Tryz.f112) _ Z
def cf6:AC:=rdc (lP 0 dc6) _ Z
theorem cl8:FnText Tryz.prog 112 [] 48 2 dc6 [(4,none)]:=tX Tryz.call112 follows Tryz.func112 O O OO Y Y
def cx0:AC:=rdc (cO Tryz.prog [9,12] 91 Tryz.f40) _ Z
def cl0:AC:=rdc (lP 0 cx0) _ Z
def ck5:AC:=rdc (lP 1 cx0) _ Z
theorem dm1:FnText Tryz.prog 40 [9,12] 91 2 cx0 [(4,none),(5,none),(6,none)]:=tX Tryz.call40 follows Tryz.func40 O O OO Y Y
def dd0:AC:=rdc (cO Tryz.prog [] 22 Tryz.f147) _ Z
def ca7:AC:=rdc (lP 0 dd0) _ Z
theorem cg0:FnText Tryz.prog 147 [] 22 2 dd0 [(4,none)]:=tX Tryz.call147 follows Tryz.func147 O O OO Y Y
def ee3:AC:=rdc (cO Tryz.prog [] 69 Tryz.f74) _ Z
theorem dn9:FnText Tryz.prog 74 [] 69 2 ee3 [(4,none)]:=tX Tryz.call74 follows Tryz.func74 O O OO Y Y
def dz3:AC:=rdc (cO Tryz.prog [] 52 Tryz.f73) _ Z
def cw7:AC:=rdc (lP 0 dz3) _ Z
theorem dk2:FnText Tryz.prog 73 [] 52 2 dz3 [(4,none)]:=tX Tryz.call73 follows Tryz.func73 O O OO Y Y
def ea7:AC:=rdc (cO Tryz.prog [] 21 Tryz.f145) _ Z
theorem cq7:FnText Tryz.prog 145 [] 21 2 ea7 [(4,none)]:=tX Tryz.call145 follows Tryz.func145 O O OO Y Y
def dx5:AC:=rdc (cO Tryz.prog [] 29 Tryz.f146) _ Z
theorem co6:FnText Tryz.prog 146 [] 29 2 dx5 [(4,none)]:=tX Tryz.call146 follows Tryz.func146 O O OO Y Y
def co9:AC:=rdc (cO Tryz.prog [] 57 Tryz.f70) _ Z
def cx2:AC:=rdc (lP 0 co9) _ Z
def cp7:AC:=rdc (lP 1 co9) _ Z
def cw9:AC:=rdc (lP 2 co9) _ Z
theorem dr1:FnText Tryz.prog 70 [] 57 5 co9 [(10,none)]:=tX Tryz.call70 follows Tryz.func70 O O OO Y Y
def dw5:AC:=rdc (cO Tryz.prog [6] 53 Tryz.f19) _ Z
def cn7:AC:=rdc (lP 0 dw5) _ Z
theorem dh6:FnText Tryz.prog 19 [6] 53 2 dw5 [(4,none)]:=tX Tryz.call19 follows Tryz.func19 O O OO Y Y
def cf4:AC:=rdc (cO Tryz.prog [] 87 Tryz.f166) _ Z
def cb3:AC:=rdc (lP 0 cf4) _ Z
def bw1:AC:=rdc (lP 1 cf4) _ Z
theorem cg5:FnText Tryz.prog 166 [] 87 3 cf4 [(6,none)]:=tX Tryz.call166 follows Tryz.func166 O O OO Y Y
def dc3:AC:=rdc (cO Tryz.prog [] 21 Tryz.f167) _ Z
def bt8:AC:=rdc (lP 0 dc3) _ Z
theorem ct9:FnText Tryz.prog 167 [] 21 2 dc3 [(4,none)]:=tX Tryz.call167 follows Tryz.func167 O O OO Y Y
def dx4:AC:=rdc (cO Tryz.prog [] 31 Tryz.f71) _ Z
def ck2:AC:=rdc (lP 0 dx4) _ Z
theorem dk3:FnText Tryz.prog 71 [] 31 1 dx4 [(2,none)]:=tX Tryz.call71 follows Tryz.func71 O O OO Y Y
def du8:AC:=rdc (cO Tryz.prog [] 25 Tryz.f72) _ Z
def cz4:AC:=rdc (lP 0 du8) _ Z
theorem dp8:FnText Tryz.prog 72 [] 25 1 du8 [(2,none)]:=tX Tryz.call72 follows Tryz.func72 O O OO Y Y
def bs6:AC:=rdc (cO Tryz.prog [2,4] 42 Tryz.f111) _ Z
def bw4:AC:=rdc (lP 0 bs6) _ Z
def by0:AC:=rdc (lP 1 bs6) _ Z
theorem cm0:FnText Tryz.prog 111 [2,4] 42 2 bs6 [(4,some (3,true))]:=tX Tryz.call111 follows Tryz.func111 O O OO Y Y
def dj4:AC:=rdc (cO Tryz.prog [9,12] 107 Tryz.f38) _ Z
def cq8:AC:=rdc (lP 0 dj4) _ Z
theorem dj3:FnText Tryz.prog 38 [9,12] 107 2 dj4 [(4,none),(5,none),(6,none)]:=tX Tryz.call38 follows Tryz.func38 O O OO Y Y
def dm4:AC:=rdc (cO Tryz.prog [6] 82 Tryz.f17) _ Z
def cm3:AC:=rdc (lP 0 dm4) _ Z
def ci1:AC:=rdc (lP 1 dm4) _ Z
theorem dp7:FnText Tryz.prog 17 [6] 82 2 dm4 [(4,none)]:=tX Tryz.call17 follows Tryz.func17 O O OO Y Y
def bz1:AC:=rdc (cO Tryz.prog [] 28 Tryz.f168) _ Z
def bw7:AC:=rdc (lP 0 bz1) _ Z
def cb9:AC:=rdc (lP 1 bz1) _ Z
theorem cz9:FnText Tryz.prog 168 [] 28 2 bz1 [(4,none)]:=tX Tryz.call168 follows Tryz.func168 O O OO Y Y
def eb3:AC:=rdc (cO Tryz.prog [] 62 Tryz.f101) _ Z
theorem ck3:FnText Tryz.prog 101 [] 62 4 eb3 [(8,none)]:=tX Tryz.call101 follows Tryz.func101 O O OO Y Y
def dr5:AC:=rdc (cO Tryz.prog [] 39 Tryz.f31) _ Z
def cg3:AC:=rdc (lP 0 dr5) _ Z
def co7:AC:=rdc (lP 1 dr5) _ Z
theorem dg0:FnText Tryz.prog 31 [] 39 2 dr5 [(4,none)]:=tX Tryz.call31 follows Tryz.func31 O O OO Y Y
def ea6:AC:=rdc (cO Tryz.prog [] 26 Tryz.f32) _ Z
def ch6:AC:=rdc (lP 0 ea6) _ Z
theorem bu3:FnText Tryz.prog 32 [] 26 2 ea6 [(4,none)]:=tX Tryz.call32 follows Tryz.func32 O O OO Y Y
def ac5:AC:=rdc (cO Tryz.prog [] 45 Tryz.f5) _ Z
def dq5:AC:=rdc (lP 0 ac5) _ Z
theorem dt9:FnText Tryz.prog 5 [] 45 2 ac5 [(4,none)]:=tX Tryz.call5 follows Tryz.func5 O O OO Y Y
def dn0:AC:=rdc (cO Tryz.prog [] 54 Tryz.f96) _ Z
def ed4:AC:=rdc (lP 0 dn0) _ Z
def ed8:AC:=rdc (lP 1 dn0) _ Z
theorem di9:FnText Tryz.prog 96 [] 54 1 dn0 [(2,none)]:=tX Tryz.call96 follows Tryz.func96 O O OO Y Y
def du1:AC:=rdc (cO Tryz.prog [] 34 Tryz.f164) _ Z
theorem ci8:FnText Tryz.prog 164 [] 34 3 du1 [(6,none)]:=tX Tryz.call164 follows Tryz.func164 O O OO Y Y
def ca3:AC:=rdc (cO Tryz.prog [] 108 Tryz.f97) _ Z
def ed9:AC:=rdc (lP 0 ca3) _ Z
def ed5:AC:=rdc (lP 1 ca3) _ Z
def ed3:AC:=rdc (lP 2 ca3) _ Z
def ee1:AC:=rdc (lP 3 ca3) _ Z
theorem df3:FnText Tryz.prog 97 [] 108 1 ca3 [(2,none)]:=tX Tryz.call97 follows Tryz.func97 O O OO Y Y
def bm0:AC:=rdc (cO Tryz.prog [] 143 Tryz.f165) _ Z
def ea4:AC:=rdc (lP 0 bm0) _ Z
def eb7:AC:=rdc (lP 1 bm0) _ Z
def ea9:AC:=rdc (lP 2 bm0) _ Z
theorem cm7:FnText Tryz.prog 165 [] 143 1 bm0 [(2,none)]:=tX Tryz.call165 follows Tryz.func165 O O OO Y Y
def dg3:AC:=rdc (cO Tryz.prog [] 49 Tryz.f98) _ Z
def ee0:AC:=rdc (lP 0 dg3) _ Z
def ed6:AC:=rdc (lP 1 dg3) _ Z
theorem dk4:FnText Tryz.prog 98 [] 49 2 dg3 [(4,none)]:=tX Tryz.call98 follows Tryz.func98 O O OO Y Y
end Go.Proofs.YtmonnlkagniolaaGreat
