/-
 The text of each function of this seat, as the plain library tells it; each by the kernel's own reckoning from the program.
-/
import Derived.Test.YtmonnlkagniolaaGreatPbV
import Derived.Test.YtmonnlkagniolaaGreatRows
set_option linter.unusedVariables false
set_option maxRecDepth 100000
namespace Go.Proofs.YtmonnlkagniolaaGreat
open Go Go.Pb
abbrev q_ (d : Nat) (o : AOp) : AOper := ⟨some d, o, none, false⟩
abbrev t_ (n : Nat) : Operand := .tmp n
abbrev k_ (i : Int) : Operand := .const (.int .i64 i)
abbrev m_ (d n : Nat) : AOper := ⟨some d, .move (.tmp n), none, false⟩
abbrev l_ (d n : Nat) : AOper := ⟨some d, .load 1 false (.tmp n), none, false⟩
abbrev f_ (d a n : Nat) : AOper := ⟨some d, .faddr a 1 false (.tmp n), none, false⟩
abbrev n_ (d a n : Nat) : AOper := ⟨some d, .bi .len [a].toArray 3 [.tmp n], none, false⟩
abbrev r_ (l : List AOper) : AC := .region false l
abbrev z_ : Operand := .const (.slice none 0 0)
theorem follows : Tryz.prog.follows .mixedOrders = true := by kernel_rfl
def dt5 : AC := rdc (cO Tryz.prog [] 20 Tryz.f94) _ (by conv => lhs; reduce)
def cj2 : AC := rdc (lP 0 dt5) _ (by conv => lhs; reduce)
theorem ds2 : FnText Tryz.prog 94 [] 20 1 dt5 [(2, none)] := tX Tryz.call94 follows Tryz.func94 rfl rfl (by decide) (by kernel_rfl) (by kernel_rfl)

def ed1 : AC := rdc (cO Tryz.prog [] 45 Tryz.f95) _ (by conv => lhs; reduce)
def cp0 : AC := rdc (lP 0 ed1) _ (by conv => lhs; reduce)
theorem dh0 : FnText Tryz.prog 95 [] 45 1 ed1 [(2, none)] := tX Tryz.call95 follows Tryz.func95 rfl rfl (by decide) (by kernel_rfl) (by kernel_rfl)

def bn7 : AC := rdc (cO Tryz.prog [7] 179 Tryz.f27) _ (by conv => lhs; reduce)
def cp3 : AC := rdc (lP 0 bn7) _ (by conv => lhs; reduce)
def cp1 : AC := rdc (lP 1 bn7) _ (by conv => lhs; reduce)
def cn9 : AC := rdc (lP 2 bn7) _ (by conv => lhs; reduce)
def ct8 : AC := rdc (lP 3 bn7) _ (by conv => lhs; reduce)
def cw5 : AC := rdc (lP 4 bn7) _ (by conv => lhs; reduce)
theorem dm8 : FnText Tryz.prog 27 [7] 179 1 bn7 [(2, none)] := tX Tryz.call27 follows Tryz.func27 rfl rfl (by decide) (by kernel_rfl) (by kernel_rfl)

def dz1 : AC := rdc (cO Tryz.prog [] 29 Tryz.f28) _ (by conv => lhs; reduce)
def ch5 : AC := rdc (lP 0 dz1) _ (by conv => lhs; reduce)
theorem dp2 : FnText Tryz.prog 28 [] 29 1 dz1 [(2, none)] := tX Tryz.call28 follows Tryz.func28 rfl rfl (by decide) (by kernel_rfl) (by kernel_rfl)

def ee7 : AC := rdc (cO Tryz.prog [] 29 Tryz.f29) _ (by conv => lhs; reduce)
theorem dn7 : FnText Tryz.prog 29 [] 29 0 ee7 [(0, none)] := tX Tryz.call29 follows Tryz.func29 rfl rfl (by decide) (by kernel_rfl) (by kernel_rfl)

def dz0 : AC := rdc (cO Tryz.prog [] 6 Tryz.f206) _ (by conv => lhs; reduce)
theorem cr4 : FnText Tryz.prog 206 [] 6 1 dz0 [(2, none)] := tX Tryz.call206 follows Tryz.func206 rfl rfl (by decide) (by kernel_rfl) (by kernel_rfl)

def dz7 : AC := rdc (cO Tryz.prog [] 20 Tryz.f141) _ (by conv => lhs; reduce)
theorem ch7 : FnText Tryz.prog 141 [] 20 2 dz7 [(4, none)] := tX Tryz.call141 follows Tryz.func141 rfl rfl (by decide) (by kernel_rfl) (by kernel_rfl)

def de7 : AC := rdc (cO Tryz.prog [] 18 Tryz.f140) _ (by conv => lhs; reduce)
def bs2 : AC := rdc (lP 0 de7) _ (by conv => lhs; reduce)
theorem cz0 : FnText Tryz.prog 140 [] 18 1 de7 [(2, none)] := tX Tryz.call140 follows Tryz.func140 rfl rfl (by decide) (by kernel_rfl) (by kernel_rfl)

def du5 : AC := rdc (cO Tryz.prog [] 17 Tryz.f139) _ (by conv => lhs; reduce)
theorem bj7 : FnText Tryz.prog 139 [] 17 2 du5 [(4, none)] := tX Tryz.call139 follows Tryz.func139 rfl rfl (by decide) (by kernel_rfl) (by kernel_rfl)

def dy2 : AC := rdc (cO Tryz.prog [] 17 Tryz.f179) _ (by conv => lhs; reduce)
theorem bj5 : FnText Tryz.prog 179 [] 17 2 dy2 [(4, none)] := tX Tryz.call179 follows Tryz.func179 rfl rfl (by decide) (by kernel_rfl) (by kernel_rfl)

def dv1 : AC := rdc (cO Tryz.prog [] 14 Tryz.f138) _ (by conv => lhs; reduce)
theorem bk7 : FnText Tryz.prog 138 [] 14 2 dv1 [] := tX Tryz.call138 follows Tryz.func138 rfl rfl (by decide) (by kernel_rfl) (by kernel_rfl)

def aa8 : AC :=
 .seq (.seq (r_ [m_ 29 5,
 m_ 30 4,
 n_ 31 75 30,
 q_ 32 (.bin .lss 3 (t_ 29) (t_ 31))])
 (.cond (t_ 32)
 (.skip)
 (.exit 2)))
 (.seq (.block 3 (.seq (.region true [m_ 35 4,
 m_ 36 5,
 q_ 37 (.iaddr 2 (t_ 35) (t_ 36)),
 q_ 38 (.load 2 true (t_ 37)),
 m_ 39 4,
 m_ 40 5,
 q_ 41 (.bin .sub 3 (t_ 40) (k_ 1)),
 q_ 42 (.iaddr 2 (t_ 39) (t_ 41)),
 q_ 43 (.load 2 true (t_ 42)),
 q_ 44 (.bin .neq 87 (t_ 38) (t_ 43))])
 (.cond (t_ 44)
 (.seq (r_ [m_ 45 0,
 m_ 46 3,
 m_ 47 4,
 m_ 48 5,
 q_ 49 (.iaddr 2 (t_ 47) (t_ 48)),
 q_ 50 (.load 2 true (t_ 49)),
 q_ 51 (.iaddr 2 (t_ 45) (t_ 46)),
 ⟨none, .store 2 (t_ 51) (t_ 50), none, false⟩])
 (r_ [m_ 52 3,
 q_ 53 (.bin .add 3 (t_ 52) (k_ 1)),
 m_ 3 53]))
 (.skip))))
 (r_ [m_ 33 5,
 q_ 34 (.bin .add 3 (t_ 33) (k_ 1)),
 m_ 5 34]))
def ac7 : AC :=
 .seq (.seq (r_ [m_ 10 3,
 m_ 11 0,
 n_ 12 75 11,
 q_ 13 (.bin .lss 3 (t_ 10) (t_ 12))])
 (.cond (t_ 13)
 (.skip)
 (.exit 0)))
 (.seq (.block 1 (.seq (.region true [m_ 16 0,
 m_ 17 3,
 q_ 18 (.iaddr 2 (t_ 16) (t_ 17)),
 q_ 19 (.load 2 true (t_ 18)),
 m_ 20 0,
 m_ 21 3,
 q_ 22 (.bin .sub 3 (t_ 21) (k_ 1)),
 q_ 23 (.iaddr 2 (t_ 20) (t_ 22)),
 q_ 24 (.load 2 true (t_ 23)),
 q_ 25 (.bin .eql 87 (t_ 19) (t_ 24))])
 (.cond (t_ 25)
 (.seq (r_ [m_ 26 0,
 m_ 27 3,
 (q_ 28 (.slice 75 2 (t_ 26) (some (t_ 27)) none none)),
 m_ 4 28])
 (.seq (.seq (r_ [q_ 5 (.move (k_ 1))])
 (.block 2 (.loop aa8)))
 (.seq (r_ [m_ 54 0,
 m_ 55 3,
 (q_ 56 (.slice 75 2 (t_ 54) (some (t_ 55)) none none)),
 ⟨none, .clr 2 (.agg [(.int .i64 0), (.int .i64 0)].toArray) (t_ 56), none, false⟩])
 (.seq (r_ [m_ 57 0,
 m_ 58 3,
 (q_ 59 (.slice 75 2 (t_ 57) none (some (t_ 58)) none)),
 m_ 2 59])
 (.ret)))))
 (.skip))))
 (r_ [m_ 14 3,
 q_ 15 (.bin .add 3 (t_ 14) (k_ 1)),
 m_ 3 15]))
/-- slices.Compact[[]patchbay/api.FieldRef,patchbay/api.FieldRef] -/
def bs5 : AC :=
 .seq (r_ [q_ 2 (.move z_)])
 (.seq (.seq (r_ [m_ 6 0,
 n_ 7 75 6,
 q_ 8 (.bin .lss 3 (t_ 7) (k_ 2))])
 (.cond (t_ 8)
 (.seq (r_ [m_ 9 0,
 m_ 2 9])
 (.ret))
 (.skip)))
 (.seq (.seq (r_ [q_ 3 (.move (k_ 1))])
 (.block 0 (.loop ac7)))
 (.seq (r_ [m_ 60 0,
 m_ 2 60])
 (.ret))))
theorem da8 : FnText Tryz.prog 142 [] 61 1 bs5 [(2, none)] :=
 ⟨Tryz.call142, follows, Tryz.f142, _, Tryz.func142, rfl, rfl, by decide, by kernel_rfl, by kernel_rfl⟩

def dy7 : AC := rdc (cO Tryz.prog [5] 28 Tryz.f66) _ (by conv => lhs; reduce)
def ct6 : AC := rdc (lP 0 dy7) _ (by conv => lhs; reduce)
theorem dl0 : FnText Tryz.prog 66 [5] 28 1 dy7 [(2, none)] := tX Tryz.call66 follows Tryz.func66 rfl rfl (by decide) (by kernel_rfl) (by kernel_rfl)

def dy1 : AC := rdc (cO Tryz.prog [] 11 Tryz.f143) _ (by conv => lhs; reduce)
theorem cq2 : FnText Tryz.prog 143 [] 11 1 dy1 [] := tX Tryz.call143 follows Tryz.func143 rfl rfl (by decide) (by kernel_rfl) (by kernel_rfl)

def aa5 : AC :=
 .seq (.seq (r_ [m_ 29 5,
 m_ 30 4,
 n_ 31 29 30,
 q_ 32 (.bin .lss 3 (t_ 29) (t_ 31))])
 (.cond (t_ 32)
 (.skip)
 (.exit 2)))
 (.seq (.block 3 (.seq (.region true [m_ 35 4,
 m_ 36 5,
 q_ 37 (.iaddr 1 (t_ 35) (t_ 36)),
 l_ 38 37,
 m_ 39 4,
 m_ 40 5,
 q_ 41 (.bin .sub 3 (t_ 40) (k_ 1)),
 q_ 42 (.iaddr 1 (t_ 39) (t_ 41)),
 l_ 43 42,
 q_ 44 (.bin .neq 3 (t_ 38) (t_ 43))])
 (.cond (t_ 44)
 (.seq (r_ [m_ 45 0,
 m_ 46 3,
 m_ 47 4,
 m_ 48 5,
 q_ 49 (.iaddr 1 (t_ 47) (t_ 48)),
 l_ 50 49,
 q_ 51 (.iaddr 1 (t_ 45) (t_ 46)),
 ⟨none, .store 1 (t_ 51) (t_ 50), none, false⟩])
 (r_ [m_ 52 3,
 q_ 53 (.bin .add 3 (t_ 52) (k_ 1)),
 m_ 3 53]))
 (.skip))))
 (r_ [m_ 33 5,
 q_ 34 (.bin .add 3 (t_ 33) (k_ 1)),
 m_ 5 34]))
def ad1 : AC :=
 .seq (.seq (r_ [m_ 10 3,
 m_ 11 0,
 n_ 12 29 11,
 q_ 13 (.bin .lss 3 (t_ 10) (t_ 12))])
 (.cond (t_ 13)
 (.skip)
 (.exit 0)))
 (.seq (.block 1 (.seq (.region true [m_ 16 0,
 m_ 17 3,
 q_ 18 (.iaddr 1 (t_ 16) (t_ 17)),
 l_ 19 18,
 m_ 20 0,
 m_ 21 3,
 q_ 22 (.bin .sub 3 (t_ 21) (k_ 1)),
 q_ 23 (.iaddr 1 (t_ 20) (t_ 22)),
 l_ 24 23,
 q_ 25 (.bin .eql 3 (t_ 19) (t_ 24))])
 (.cond (t_ 25)
 (.seq (r_ [m_ 26 0,
 m_ 27 3,
 (q_ 28 (.slice 29 1 (t_ 26) (some (t_ 27)) none none)),
 m_ 4 28])
 (.seq (.seq (r_ [q_ 5 (.move (k_ 1))])
 (.block 2 (.loop aa5)))
 (.seq (r_ [m_ 54 0,
 m_ 55 3,
 (q_ 56 (.slice 29 1 (t_ 54) (some (t_ 55)) none none)),
 ⟨none, .clr 1 (.int .i64 0) (t_ 56), none, false⟩])
 (.seq (r_ [m_ 57 0,
 m_ 58 3,
 (q_ 59 (.slice 29 1 (t_ 57) none (some (t_ 58)) none)),
 m_ 2 59])
 (.ret)))))
 (.skip))))
 (r_ [m_ 14 3,
 q_ 15 (.bin .add 3 (t_ 14) (k_ 1)),
 m_ 3 15]))
/-- slices.Compact[[]int,int] -/
def br6 : AC :=
 .seq (r_ [q_ 2 (.move z_)])
 (.seq (.seq (r_ [m_ 6 0,
 n_ 7 29 6,
 q_ 8 (.bin .lss 3 (t_ 7) (k_ 2))])
 (.cond (t_ 8)
 (.seq (r_ [m_ 9 0,
 m_ 2 9])
 (.ret))
 (.skip)))
 (.seq (.seq (r_ [q_ 3 (.move (k_ 1))])
 (.block 0 (.loop ad1)))
 (.seq (r_ [m_ 60 0,
 m_ 2 60])
 (.ret))))
theorem ci7 : FnText Tryz.prog 144 [] 61 1 br6 [(2, none)] :=
 ⟨Tryz.call144, follows, Tryz.f144, _, Tryz.func144, rfl, rfl, by decide, by kernel_rfl, by kernel_rfl⟩

def dt8 : AC := rdc (cO Tryz.prog [5] 25 Tryz.f67) _ (by conv => lhs; reduce)
def cv0 : AC := rdc (lP 0 dt8) _ (by conv => lhs; reduce)
theorem di3 : FnText Tryz.prog 67 [5] 25 1 dt8 [(2, none)] := tX Tryz.call67 follows Tryz.func67 rfl rfl (by decide) (by kernel_rfl) (by kernel_rfl)

def ec9 : AC := rdc (cO Tryz.prog [] 15 Tryz.f137) _ (by conv => lhs; reduce)
theorem cv3 : FnText Tryz.prog 137 [] 15 2 ec9 [] := tX Tryz.call137 follows Tryz.func137 rfl rfl (by decide) (by kernel_rfl) (by kernel_rfl)

def dc5 : AC := rdc (cO Tryz.prog [2, 3, 5] 32 Tryz.f163) _ (by conv => lhs; reduce)
def bz7 : AC := rdc (lP 0 dc5) _ (by conv => lhs; reduce)
theorem cs0 : FnText Tryz.prog 163 [2, 3, 5] 32 1 dc5 [(2, some (4, true))] := tX Tryz.call163 follows Tryz.func163 rfl rfl (by decide) (by kernel_rfl) (by kernel_rfl)

def dc0 : AC := rdc (cO Tryz.prog [] 22 Tryz.f135) _ (by conv => lhs; reduce)
def bx9 : AC := rdc (lP 0 dc0) _ (by conv => lhs; reduce)
theorem cl9 : FnText Tryz.prog 135 [] 22 2 dc0 [(4, none)] := tX Tryz.call135 follows Tryz.func135 rfl rfl (by decide) (by kernel_rfl) (by kernel_rfl)

def ef2 : AC := rdc (cO Tryz.prog [] 22 Tryz.f92) _ (by conv => lhs; reduce)
theorem dq7 : FnText Tryz.prog 92 [] 22 3 ef2 [(6, none)] := tX Tryz.call92 follows Tryz.func92 rfl rfl (by decide) (by kernel_rfl) (by kernel_rfl)

def dv9 : AC := rdc (cO Tryz.prog [7] 63 Tryz.f62) _ (by conv => lhs; reduce)
def cs7 : AC := rdc (lP 0 dv9) _ (by conv => lhs; reduce)
theorem do9 : FnText Tryz.prog 62 [7] 63 2 dv9 [(4, none)] := tX Tryz.call62 follows Tryz.func62 rfl rfl (by decide) (by kernel_rfl) (by kernel_rfl)

def ef1 : AC := rdc (cO Tryz.prog [] 8 Tryz.f63) _ (by conv => lhs; reduce)
theorem dr4 : FnText Tryz.prog 63 [] 8 2 ef1 [(4, none)] := tX Tryz.call63 follows Tryz.func63 rfl rfl (by decide) (by kernel_rfl) (by kernel_rfl)

def ee9 : AC := rdc (cO Tryz.prog [] 8 Tryz.f25) _ (by conv => lhs; reduce)
theorem dh4 : FnText Tryz.prog 25 [] 8 2 ee9 [(4, none)] := tX Tryz.call25 follows Tryz.func25 rfl rfl (by decide) (by kernel_rfl) (by kernel_rfl)

def co1 : AC := rdc (cO Tryz.prog [10] 61 Tryz.f65) _ (by conv => lhs; reduce)
def cn0 : AC := rdc (lP 0 co1) _ (by conv => lhs; reduce)
def co3 : AC := rdc (lP 1 co1) _ (by conv => lhs; reduce)
def cy1 : AC := rdc (lP 2 co1) _ (by conv => lhs; reduce)
theorem ds1 : FnText Tryz.prog 65 [10] 61 4 co1 [] := tX Tryz.call65 follows Tryz.func65 rfl rfl (by decide) (by kernel_rfl) (by kernel_rfl)

def ef0 : AC := rdc (cO Tryz.prog [] 13 Tryz.f68) _ (by conv => lhs; reduce)
theorem dh2 : FnText Tryz.prog 68 [] 13 1 ef0 [(2, none)] := tX Tryz.call68 follows Tryz.func68 rfl rfl (by decide) (by kernel_rfl) (by kernel_rfl)

def ec7 : AC := rdc (cO Tryz.prog [4] 24 Tryz.f69) _ (by conv => lhs; reduce)
theorem di6 : FnText Tryz.prog 69 [4] 24 2 ec7 [(4, some (6, true)), (5, none)] := tX Tryz.call69 follows Tryz.func69 rfl rfl (by decide) (by kernel_rfl) (by kernel_rfl)

def dz8 : AC := rdc (cO Tryz.prog [] 17 Tryz.f221) _ (by conv => lhs; reduce)
theorem ci2 : FnText Tryz.prog 221 [] 17 1 dz8 [(2, none)] := tX Tryz.call221 follows Tryz.func221 rfl rfl (by decide) (by kernel_rfl) (by kernel_rfl)

def dd4 : AC := rdc (cO Tryz.prog [] 20 Tryz.f222) _ (by conv => lhs; reduce)
def bx5 : AC := rdc (lP 0 dd4) _ (by conv => lhs; reduce)
theorem cg4 : FnText Tryz.prog 222 [] 20 2 dd4 [(4, none)] := tX Tryz.call222 follows Tryz.func222 rfl rfl (by decide) (by kernel_rfl) (by kernel_rfl)

def eb9 : AC := rdc (cO Tryz.prog [] 9 Tryz.f224) _ (by conv => lhs; reduce)
theorem ci6 : FnText Tryz.prog 224 [] 9 1 eb9 [(2, none)] := tX Tryz.call224 follows Tryz.func224 rfl rfl (by decide) (by kernel_rfl) (by kernel_rfl)

def du2 : AC := rdc (cO Tryz.prog [] 13 Tryz.f223) _ (by conv => lhs; reduce)
theorem cp6 : FnText Tryz.prog 223 [] 13 1 du2 [(2, none)] := tX Tryz.call223 follows Tryz.func223 rfl rfl (by decide) (by kernel_rfl) (by kernel_rfl)

def eb0 : AC := rdc (cO Tryz.prog [] 22 Tryz.f169) _ (by conv => lhs; reduce)
theorem cy2 : FnText Tryz.prog 169 [] 22 1 eb0 [(2, none)] := tX Tryz.call169 follows Tryz.func169 rfl rfl (by decide) (by kernel_rfl) (by kernel_rfl)

def dw2 : AC := rdc (cO Tryz.prog [] 9 Tryz.f171) _ (by conv => lhs; reduce)
theorem da6 : FnText Tryz.prog 171 [] 9 2 dw2 [(3, none)] := tX Tryz.call171 follows Tryz.func171 rfl rfl (by decide) (by kernel_rfl) (by kernel_rfl)

def dc9 : AC := rdc (cO Tryz.prog [] 19 Tryz.f225) _ (by conv => lhs; reduce)
def by4 : AC := rdc (lP 0 dc9) _ (by conv => lhs; reduce)
theorem cp8 : FnText Tryz.prog 225 [] 19 2 dc9 [(4, none)] := tX Tryz.call225 follows Tryz.func225 rfl rfl (by decide) (by kernel_rfl) (by kernel_rfl)

def du6 : AC := rdc (cO Tryz.prog [] 9 Tryz.f170) _ (by conv => lhs; reduce)
theorem cw8 : FnText Tryz.prog 170 [] 9 2 du6 [(4, none)] := tX Tryz.call170 follows Tryz.func170 rfl rfl (by decide) (by kernel_rfl) (by kernel_rfl)

def dc7 : AC := rdc (cO Tryz.prog [4] 51 Tryz.f103) _ (by conv => lhs; reduce)
def bx2 : AC := rdc (lP 0 dc7) _ (by conv => lhs; reduce)
theorem cg2 : FnText Tryz.prog 103 [4] 51 1 dc7 [(2, none)] := tX Tryz.call103 follows Tryz.func103 rfl rfl (by decide) (by kernel_rfl) (by kernel_rfl)

def dz2 : AC := rdc (cO Tryz.prog [] 46 Tryz.f172) _ (by conv => lhs; reduce)
theorem da2 : FnText Tryz.prog 172 [] 46 2 dz2 [(4, none), (5, none)] := tX Tryz.call172 follows Tryz.func172 rfl rfl (by decide) (by kernel_rfl) (by kernel_rfl)

def dx9 : AC := rdc (cO Tryz.prog [] 25 Tryz.f267) _ (by conv => lhs; reduce)
theorem cu9 : FnText Tryz.prog 267 [] 25 1 dx9 [(2, none)] := tX Tryz.call267 follows Tryz.func267 rfl rfl (by decide) (by kernel_rfl) (by kernel_rfl)

def dy3 : AC := rdc (cO Tryz.prog [] 11 Tryz.f287) _ (by conv => lhs; reduce)
theorem cy0 : FnText Tryz.prog 287 [] 11 1 dy3 [(2, none), (3, none)] := tX Tryz.call287 follows Tryz.func287 rfl rfl (by decide) (by kernel_rfl) (by kernel_rfl)

def de4 : AC := rdc (cO Tryz.prog [] 18 Tryz.f181) _ (by conv => lhs; reduce)
def ca9 : AC := rdc (lP 0 de4) _ (by conv => lhs; reduce)
theorem cu3 : FnText Tryz.prog 181 [] 18 1 de4 [(2, none)] := tX Tryz.call181 follows Tryz.func181 rfl rfl (by decide) (by kernel_rfl) (by kernel_rfl)

def dt6 : AC := rdc (cO Tryz.prog [] 10 Tryz.f182) _ (by conv => lhs; reduce)
theorem ck6 : FnText Tryz.prog 182 [] 10 1 dt6 [(2, none)] := tX Tryz.call182 follows Tryz.func182 rfl rfl (by decide) (by kernel_rfl) (by kernel_rfl)

def db8 : AC := rdc (cO Tryz.prog [6] 45 Tryz.f288) _ (by conv => lhs; reduce)
theorem cy8 : FnText Tryz.prog 288 [6] 45 3 db8 [(6, some (2, true)), (7, none)] := tX Tryz.call288 follows Tryz.func288 rfl rfl (by decide) (by kernel_rfl) (by kernel_rfl)

def dx6 : AC := rdc (cO Tryz.prog [8] 90 Tryz.f268) _ (by conv => lhs; reduce)
theorem ck1 : FnText Tryz.prog 268 [8] 90 2 dx6 [(4, none), (5, none)] := tX Tryz.call268 follows Tryz.func268 rfl rfl (by decide) (by kernel_rfl) (by kernel_rfl)

def dw8 : AC := rdc (cO Tryz.prog [] 91 Tryz.f269) _ (by conv => lhs; reduce)
theorem cn1 : FnText Tryz.prog 269 [] 91 2 dw8 [(4, none), (5, none)] := tX Tryz.call269 follows Tryz.func269 rfl rfl (by decide) (by kernel_rfl) (by kernel_rfl)

def db7 : AC := rdc (cO Tryz.prog [10] 73 Tryz.f226) _ (by conv => lhs; reduce)
def bt1 : AC := rdc (lP 0 db7) _ (by conv => lhs; reduce)
theorem co2 : FnText Tryz.prog 226 [10] 73 3 db7 [(6, none), (7, none), (8, none)] := tX Tryz.call226 follows Tryz.func226 rfl rfl (by decide) (by kernel_rfl) (by kernel_rfl)

def ea2 : AC := rdc (cO Tryz.prog [] 27 Tryz.f174) _ (by conv => lhs; reduce)
theorem cn5 : FnText Tryz.prog 174 [] 27 2 ea2 [(4, none), (5, none)] := tX Tryz.call174 follows Tryz.func174 rfl rfl (by decide) (by kernel_rfl) (by kernel_rfl)

def du0 : AC := rdc (cO Tryz.prog [] 24 Tryz.f173) _ (by conv => lhs; reduce)
theorem cl3 : FnText Tryz.prog 173 [] 24 3 du0 [(6, none)] := tX Tryz.call173 follows Tryz.func173 rfl rfl (by decide) (by kernel_rfl) (by kernel_rfl)

def dv0 : AC := rdc (cO Tryz.prog [5] 105 Tryz.f104) _ (by conv => lhs; reduce)
theorem ck8 : FnText Tryz.prog 104 [5] 105 2 dv0 [(4, none)] := tX Tryz.call104 follows Tryz.func104 rfl rfl (by decide) (by kernel_rfl) (by kernel_rfl)

def dx8 : AC := rdc (cO Tryz.prog [6, 7, 9] 50 Tryz.f35) _ (by conv => lhs; reduce)
def co8 : AC := rdc (lP 0 dx8) _ (by conv => lhs; reduce)
theorem dj1 : FnText Tryz.prog 35 [6, 7, 9] 50 2 dx8 [(4, none), (5, none)] := tX Tryz.call35 follows Tryz.func35 rfl rfl (by decide) (by kernel_rfl) (by kernel_rfl)

def eb5 : AC := rdc (cO Tryz.prog [] 21 Tryz.f108) _ (by conv => lhs; reduce)
theorem ch4 : FnText Tryz.prog 108 [] 21 2 eb5 [(4, none)] := tX Tryz.call108 follows Tryz.func108 rfl rfl (by decide) (by kernel_rfl) (by kernel_rfl)

def ec5 : AC := rdc (cO Tryz.prog [] 24 Tryz.f109) _ (by conv => lhs; reduce)
theorem co4 : FnText Tryz.prog 109 [] 24 2 ec5 [] := tX Tryz.call109 follows Tryz.func109 rfl rfl (by decide) (by kernel_rfl) (by kernel_rfl)

def dy8 : AC := rdc (cO Tryz.prog [1000000] 35 Tryz.f110) _ (by conv => lhs; reduce)
theorem ch9 : FnText Tryz.prog 110 [1000000] 35 1 dy8 [(2, none), (3, none), (4, none)] := tX Tryz.call110 follows Tryz.func110 rfl rfl (by decide) (by kernel_rfl) (by kernel_rfl)

def dp3 : AC := rdc (cO Tryz.prog [7, 9] 81 Tryz.f37) _ (by conv => lhs; reduce)
def cn3 : AC := rdc (lP 0 dp3) _ (by conv => lhs; reduce)
theorem dg6 : FnText Tryz.prog 37 [7, 9] 81 2 dp3 [(4, none), (5, none), (6, none)] := tX Tryz.call37 follows Tryz.func37 rfl rfl (by decide) (by kernel_rfl) (by kernel_rfl)

def ds5 : AC := rdc (cO Tryz.prog [14, 6, 9] 67 Tryz.f16) _ (by conv => lhs; reduce)
def cv5 : AC := rdc (lP 0 ds5) _ (by conv => lhs; reduce)
def cz8 : AC := rdc (lP 1 ds5) _ (by conv => lhs; reduce)
theorem di2 : FnText Tryz.prog 16 [14, 6, 9] 67 2 ds5 [(4, none)] := tX Tryz.call16 follows Tryz.func16 rfl rfl (by decide) (by kernel_rfl) (by kernel_rfl)

def cx6 : AC := rdc (cO Tryz.prog [7, 9] 76 Tryz.f39) _ (by conv => lhs; reduce)
def cp4 : AC := rdc (lP 0 cx6) _ (by conv => lhs; reduce)
def cp2 : AC := rdc (lP 1 cx6) _ (by conv => lhs; reduce)
theorem dj7 : FnText Tryz.prog 39 [7, 9] 76 2 cx6 [(4, none), (5, none), (6, none)] := tX Tryz.call39 follows Tryz.func39 rfl rfl (by decide) (by kernel_rfl) (by kernel_rfl)

def dt2 : AC := rdc (cO Tryz.prog [5, 20] 39 Tryz.f18) _ (by conv => lhs; reduce)
def ci0 : AC := rdc (lP 0 dt2) _ (by conv => lhs; reduce)
theorem dn4 : FnText Tryz.prog 18 [5, 20] 39 2 dt2 [(4, none)] := tX Tryz.call18 follows Tryz.func18 rfl rfl (by decide) (by kernel_rfl) (by kernel_rfl)

def db6 : AC := rdc (cO Tryz.prog [] 19 Tryz.f201) _ (by conv => lhs; reduce)
def ce8 : AC := rdc (lP 0 db6) _ (by conv => lhs; reduce)
theorem cj9 : FnText Tryz.prog 201 [] 19 2 db6 [(4, none)] := tX Tryz.call201 follows Tryz.func201 rfl rfl (by decide) (by kernel_rfl) (by kernel_rfl)

def du3 : AC := rdc (cO Tryz.prog [] 9 Tryz.f133) _ (by conv => lhs; reduce)
theorem da5 : FnText Tryz.prog 133 [] 9 2 du3 [(4, none)] := tX Tryz.call133 follows Tryz.func133 rfl rfl (by decide) (by kernel_rfl) (by kernel_rfl)

def dw0 : AC := rdc (cO Tryz.prog [] 17 Tryz.f132) _ (by conv => lhs; reduce)
theorem cm8 : FnText Tryz.prog 132 [] 17 3 dw0 [(4, none)] := tX Tryz.call132 follows Tryz.func132 rfl rfl (by decide) (by kernel_rfl) (by kernel_rfl)

def de5 : AC := rdc (cO Tryz.prog [] 19 Tryz.f200) _ (by conv => lhs; reduce)
def ce9 : AC := rdc (lP 0 de5) _ (by conv => lhs; reduce)
theorem cm2 : FnText Tryz.prog 200 [] 19 2 de5 [(4, none)] := tX Tryz.call200 follows Tryz.func200 rfl rfl (by decide) (by kernel_rfl) (by kernel_rfl)

def dt0 : AC := rdc (cO Tryz.prog [] 9 Tryz.f131) _ (by conv => lhs; reduce)
theorem ch2 : FnText Tryz.prog 131 [] 9 2 dt0 [(4, none)] := tX Tryz.call131 follows Tryz.func131 rfl rfl (by decide) (by kernel_rfl) (by kernel_rfl)

def ee6 : AC := rdc (cO Tryz.prog [] 32 Tryz.f55) _ (by conv => lhs; reduce)
theorem de8 : FnText Tryz.prog 55 [] 32 3 ee6 [(6, none)] := tX Tryz.call55 follows Tryz.func55 rfl rfl (by decide) (by kernel_rfl) (by kernel_rfl)

def eb6 : AC := rdc (cO Tryz.prog [6] 19 Tryz.f99) _ (by conv => lhs; reduce)
def cz2 : AC := rdc (lP 0 eb6) _ (by conv => lhs; reduce)
theorem df1 : FnText Tryz.prog 99 [6] 19 2 eb6 [(4, none)] := tX Tryz.call99 follows Tryz.func99 rfl rfl (by decide) (by kernel_rfl) (by kernel_rfl)

def cd7 : AC := rdc (cO Tryz.prog [] 26 Tryz.f100) _ (by conv => lhs; reduce)
def cd3 : AC := rdc (lP 0 cd7) _ (by conv => lhs; reduce)
def cd9 : AC := rdc (lP 1 cd7) _ (by conv => lhs; reduce)
theorem cx5 : FnText Tryz.prog 100 [] 26 2 cd7 [(4, none)] := tX Tryz.call100 follows Tryz.func100 rfl rfl (by decide) (by kernel_rfl) (by kernel_rfl)

def cg1 : AC := rdc (cO Tryz.prog [10] 120 Tryz.f30) _ (by conv => lhs; reduce)
def cr5 : AC := rdc (lP 0 cg1) _ (by conv => lhs; reduce)
def cs5 : AC := rdc (lP 1 cg1) _ (by conv => lhs; reduce)
def cq0 : AC := rdc (lP 2 cg1) _ (by conv => lhs; reduce)
theorem dl7 : FnText Tryz.prog 30 [10] 120 2 cg1 [(4, none)] := tX Tryz.call30 follows Tryz.func30 rfl rfl (by decide) (by kernel_rfl) (by kernel_rfl)

def dt3 : AC := rdc (cO Tryz.prog [] 17 Tryz.f175) _ (by conv => lhs; reduce)
theorem cu7 : FnText Tryz.prog 175 [] 17 1 dt3 [(2, none)] := tX Tryz.call175 follows Tryz.func175 rfl rfl (by decide) (by kernel_rfl) (by kernel_rfl)

def dw1 : AC := rdc (cO Tryz.prog [] 9 Tryz.f176) _ (by conv => lhs; reduce)
theorem db1 : FnText Tryz.prog 176 [] 9 1 dw1 [(2, none)] := tX Tryz.call176 follows Tryz.func176 rfl rfl (by decide) (by kernel_rfl) (by kernel_rfl)

def dc4 : AC := rdc (cO Tryz.prog [] 41 Tryz.f105) _ (by conv => lhs; reduce)
def ce1 : AC := rdc (lP 0 dc4) _ (by conv => lhs; reduce)
theorem cz3 : FnText Tryz.prog 105 [] 41 1 dc4 [(2, none)] := tX Tryz.call105 follows Tryz.func105 rfl rfl (by decide) (by kernel_rfl) (by kernel_rfl)

def cb6 : AC := rdc (cO Tryz.prog [] 50 Tryz.f106) _ (by conv => lhs; reduce)
def bs0 : AC := rdc (lP 0 cb6) _ (by conv => lhs; reduce)
def bs9 : AC := rdc (lP 1 cb6) _ (by conv => lhs; reduce)
theorem ct2 : FnText Tryz.prog 106 [] 50 1 cb6 [(2, none)] := tX Tryz.call106 follows Tryz.func106 rfl rfl (by decide) (by kernel_rfl) (by kernel_rfl)

def ee5 : AC := rdc (cO Tryz.prog [4] 13 Tryz.f85) _ (by conv => lhs; reduce)
theorem df7 : FnText Tryz.prog 85 [4] 13 2 ee5 [(4, some (10, true))] := tX Tryz.call85 follows Tryz.func85 rfl rfl (by decide) (by kernel_rfl) (by kernel_rfl)

def dv8 : AC := rdc (cO Tryz.prog [] 46 Tryz.f177) _ (by conv => lhs; reduce)
theorem cu1 : FnText Tryz.prog 177 [] 46 2 dv8 [(4, none), (5, none)] := tX Tryz.call177 follows Tryz.func177 rfl rfl (by decide) (by kernel_rfl) (by kernel_rfl)

def dx0 : AC := rdc (cO Tryz.prog [] 27 Tryz.f219) _ (by conv => lhs; reduce)
theorem cl2 : FnText Tryz.prog 219 [] 27 1 dx0 [(2, none)] := tX Tryz.call219 follows Tryz.func219 rfl rfl (by decide) (by kernel_rfl) (by kernel_rfl)

def eb4 : AC := rdc (cO Tryz.prog [] 11 Tryz.f285) _ (by conv => lhs; reduce)
theorem ct3 : FnText Tryz.prog 285 [] 11 1 eb4 [(2, none), (3, none)] := tX Tryz.call285 follows Tryz.func285 rfl rfl (by decide) (by kernel_rfl) (by kernel_rfl)

def dx1 : AC := rdc (cO Tryz.prog [] 9 Tryz.f183) _ (by conv => lhs; reduce)
theorem cy6 : FnText Tryz.prog 183 [] 9 1 dx1 [(2, none)] := tX Tryz.call183 follows Tryz.func183 rfl rfl (by decide) (by kernel_rfl) (by kernel_rfl)

def dd7 : AC := rdc (cO Tryz.prog [] 13 Tryz.f184) _ (by conv => lhs; reduce)
def bu6 : AC := rdc (lP 0 dd7) _ (by conv => lhs; reduce)
theorem cx4 : FnText Tryz.prog 184 [] 13 1 dd7 [(2, none)] := tX Tryz.call184 follows Tryz.func184 rfl rfl (by decide) (by kernel_rfl) (by kernel_rfl)

def ec0 : AC := rdc (cO Tryz.prog [] 10 Tryz.f286) _ (by conv => lhs; reduce)
theorem cw0 : FnText Tryz.prog 286 [] 10 1 ec0 [(2, none)] := tX Tryz.call286 follows Tryz.func286 rfl rfl (by decide) (by kernel_rfl) (by kernel_rfl)

def dw3 : AC := rdc (cO Tryz.prog [] 91 Tryz.f258) _ (by conv => lhs; reduce)
theorem cv8 : FnText Tryz.prog 258 [] 91 2 dw3 [(4, none), (5, none)] := tX Tryz.call258 follows Tryz.func258 rfl rfl (by decide) (by kernel_rfl) (by kernel_rfl)

def ea0 : AC := rdc (cO Tryz.prog [] 105 Tryz.f259) _ (by conv => lhs; reduce)
theorem da0 : FnText Tryz.prog 259 [] 105 2 ea0 [(4, none), (5, none)] := tX Tryz.call259 follows Tryz.func259 rfl rfl (by decide) (by kernel_rfl) (by kernel_rfl)

def db9 : AC := rdc (cO Tryz.prog [] 85 Tryz.f216) _ (by conv => lhs; reduce)
def ca1 : AC := rdc (lP 0 db9) _ (by conv => lhs; reduce)
theorem cn4 : FnText Tryz.prog 216 [] 85 3 db9 [(6, none), (7, none), (8, none)] := tX Tryz.call216 follows Tryz.func216 rfl rfl (by decide) (by kernel_rfl) (by kernel_rfl)

def dy6 : AC := rdc (cO Tryz.prog [] 29 Tryz.f156) _ (by conv => lhs; reduce)
theorem cr3 : FnText Tryz.prog 156 [] 29 2 dy6 [(4, none), (5, none)] := tX Tryz.call156 follows Tryz.func156 rfl rfl (by decide) (by kernel_rfl) (by kernel_rfl)

def ec6 : AC := rdc (cO Tryz.prog [] 23 Tryz.f178) _ (by conv => lhs; reduce)
theorem cl5 : FnText Tryz.prog 178 [] 23 3 ec6 [(6, none)] := tX Tryz.call178 follows Tryz.func178 rfl rfl (by decide) (by kernel_rfl) (by kernel_rfl)

def dv4 : AC := rdc (cO Tryz.prog [] 111 Tryz.f107) _ (by conv => lhs; reduce)
theorem cw6 : FnText Tryz.prog 107 [] 111 3 dv4 [(6, none)] := tX Tryz.call107 follows Tryz.func107 rfl rfl (by decide) (by kernel_rfl) (by kernel_rfl)

def dz4 : AC := rdc (cO Tryz.prog [6] 68 Tryz.f36) _ (by conv => lhs; reduce)
def cj0 : AC := rdc (lP 0 dz4) _ (by conv => lhs; reduce)
theorem dp1 : FnText Tryz.prog 36 [6] 68 2 dz4 [(4, none), (5, none)] := tX Tryz.call36 follows Tryz.func36 rfl rfl (by decide) (by kernel_rfl) (by kernel_rfl)

def dv2 : AC := rdc (cO Tryz.prog [] 24 Tryz.f180) _ (by conv => lhs; reduce)
theorem cy9 : FnText Tryz.prog 180 [] 24 2 dv2 [(4, none)] := tX Tryz.call180 follows Tryz.func180 rfl rfl (by decide) (by kernel_rfl) (by kernel_rfl)

def de1 : AC := rdc (cO Tryz.prog [] 49 Tryz.f113) _ (by conv => lhs; reduce)
def br2 : AC := rdc (lP 0 de1) _ (by conv => lhs; reduce)
theorem cg6 : FnText Tryz.prog 113 [] 49 2 de1 [(4, none)] := tX Tryz.call113 follows Tryz.func113 rfl rfl (by decide) (by kernel_rfl) (by kernel_rfl)

def dc6 : AC := rdc (cO Tryz.prog [] 48 Tryz.f112) _ (by conv => lhs; reduce)
def cf6 : AC := rdc (lP 0 dc6) _ (by conv => lhs; reduce)
theorem cl8 : FnText Tryz.prog 112 [] 48 2 dc6 [(4, none)] := tX Tryz.call112 follows Tryz.func112 rfl rfl (by decide) (by kernel_rfl) (by kernel_rfl)

def cx0 : AC := rdc (cO Tryz.prog [9, 12] 91 Tryz.f40) _ (by conv => lhs; reduce)
def cl0 : AC := rdc (lP 0 cx0) _ (by conv => lhs; reduce)
def ck5 : AC := rdc (lP 1 cx0) _ (by conv => lhs; reduce)
theorem dm1 : FnText Tryz.prog 40 [9, 12] 91 2 cx0 [(4, none), (5, none), (6, none)] := tX Tryz.call40 follows Tryz.func40 rfl rfl (by decide) (by kernel_rfl) (by kernel_rfl)

def dd0 : AC := rdc (cO Tryz.prog [] 22 Tryz.f147) _ (by conv => lhs; reduce)
def ca7 : AC := rdc (lP 0 dd0) _ (by conv => lhs; reduce)
theorem cg0 : FnText Tryz.prog 147 [] 22 2 dd0 [(4, none)] := tX Tryz.call147 follows Tryz.func147 rfl rfl (by decide) (by kernel_rfl) (by kernel_rfl)

def ee3 : AC := rdc (cO Tryz.prog [] 69 Tryz.f74) _ (by conv => lhs; reduce)
theorem dn9 : FnText Tryz.prog 74 [] 69 2 ee3 [(4, none)] := tX Tryz.call74 follows Tryz.func74 rfl rfl (by decide) (by kernel_rfl) (by kernel_rfl)

def dz3 : AC := rdc (cO Tryz.prog [] 52 Tryz.f73) _ (by conv => lhs; reduce)
def cw7 : AC := rdc (lP 0 dz3) _ (by conv => lhs; reduce)
theorem dk2 : FnText Tryz.prog 73 [] 52 2 dz3 [(4, none)] := tX Tryz.call73 follows Tryz.func73 rfl rfl (by decide) (by kernel_rfl) (by kernel_rfl)

def ea7 : AC := rdc (cO Tryz.prog [] 21 Tryz.f145) _ (by conv => lhs; reduce)
theorem cq7 : FnText Tryz.prog 145 [] 21 2 ea7 [(4, none)] := tX Tryz.call145 follows Tryz.func145 rfl rfl (by decide) (by kernel_rfl) (by kernel_rfl)

def dx5 : AC := rdc (cO Tryz.prog [] 29 Tryz.f146) _ (by conv => lhs; reduce)
theorem co6 : FnText Tryz.prog 146 [] 29 2 dx5 [(4, none)] := tX Tryz.call146 follows Tryz.func146 rfl rfl (by decide) (by kernel_rfl) (by kernel_rfl)

def co9 : AC := rdc (cO Tryz.prog [] 57 Tryz.f70) _ (by conv => lhs; reduce)
def cx2 : AC := rdc (lP 0 co9) _ (by conv => lhs; reduce)
def cp7 : AC := rdc (lP 1 co9) _ (by conv => lhs; reduce)
def cw9 : AC := rdc (lP 2 co9) _ (by conv => lhs; reduce)
theorem dr1 : FnText Tryz.prog 70 [] 57 5 co9 [(10, none)] := tX Tryz.call70 follows Tryz.func70 rfl rfl (by decide) (by kernel_rfl) (by kernel_rfl)

def dw5 : AC := rdc (cO Tryz.prog [6] 53 Tryz.f19) _ (by conv => lhs; reduce)
def cn7 : AC := rdc (lP 0 dw5) _ (by conv => lhs; reduce)
theorem dh6 : FnText Tryz.prog 19 [6] 53 2 dw5 [(4, none)] := tX Tryz.call19 follows Tryz.func19 rfl rfl (by decide) (by kernel_rfl) (by kernel_rfl)

def cf4 : AC := rdc (cO Tryz.prog [] 87 Tryz.f166) _ (by conv => lhs; reduce)
def cb3 : AC := rdc (lP 0 cf4) _ (by conv => lhs; reduce)
def bw1 : AC := rdc (lP 1 cf4) _ (by conv => lhs; reduce)
theorem cg5 : FnText Tryz.prog 166 [] 87 3 cf4 [(6, none)] := tX Tryz.call166 follows Tryz.func166 rfl rfl (by decide) (by kernel_rfl) (by kernel_rfl)

def dc3 : AC := rdc (cO Tryz.prog [] 21 Tryz.f167) _ (by conv => lhs; reduce)
def bt8 : AC := rdc (lP 0 dc3) _ (by conv => lhs; reduce)
theorem ct9 : FnText Tryz.prog 167 [] 21 2 dc3 [(4, none)] := tX Tryz.call167 follows Tryz.func167 rfl rfl (by decide) (by kernel_rfl) (by kernel_rfl)

def dx4 : AC := rdc (cO Tryz.prog [] 31 Tryz.f71) _ (by conv => lhs; reduce)
def ck2 : AC := rdc (lP 0 dx4) _ (by conv => lhs; reduce)
theorem dk3 : FnText Tryz.prog 71 [] 31 1 dx4 [(2, none)] := tX Tryz.call71 follows Tryz.func71 rfl rfl (by decide) (by kernel_rfl) (by kernel_rfl)

def du8 : AC := rdc (cO Tryz.prog [] 25 Tryz.f72) _ (by conv => lhs; reduce)
def cz4 : AC := rdc (lP 0 du8) _ (by conv => lhs; reduce)
theorem dp8 : FnText Tryz.prog 72 [] 25 1 du8 [(2, none)] := tX Tryz.call72 follows Tryz.func72 rfl rfl (by decide) (by kernel_rfl) (by kernel_rfl)

def bs6 : AC := rdc (cO Tryz.prog [2, 4] 42 Tryz.f111) _ (by conv => lhs; reduce)
def bw4 : AC := rdc (lP 0 bs6) _ (by conv => lhs; reduce)
def by0 : AC := rdc (lP 1 bs6) _ (by conv => lhs; reduce)
theorem cm0 : FnText Tryz.prog 111 [2, 4] 42 2 bs6 [(4, some (3, true))] := tX Tryz.call111 follows Tryz.func111 rfl rfl (by decide) (by kernel_rfl) (by kernel_rfl)

def dj4 : AC := rdc (cO Tryz.prog [9, 12] 107 Tryz.f38) _ (by conv => lhs; reduce)
def cq8 : AC := rdc (lP 0 dj4) _ (by conv => lhs; reduce)
theorem dj3 : FnText Tryz.prog 38 [9, 12] 107 2 dj4 [(4, none), (5, none), (6, none)] := tX Tryz.call38 follows Tryz.func38 rfl rfl (by decide) (by kernel_rfl) (by kernel_rfl)

def dm4 : AC := rdc (cO Tryz.prog [6] 82 Tryz.f17) _ (by conv => lhs; reduce)
def cm3 : AC := rdc (lP 0 dm4) _ (by conv => lhs; reduce)
def ci1 : AC := rdc (lP 1 dm4) _ (by conv => lhs; reduce)
theorem dp7 : FnText Tryz.prog 17 [6] 82 2 dm4 [(4, none)] := tX Tryz.call17 follows Tryz.func17 rfl rfl (by decide) (by kernel_rfl) (by kernel_rfl)

def bz1 : AC := rdc (cO Tryz.prog [] 28 Tryz.f168) _ (by conv => lhs; reduce)
def bw7 : AC := rdc (lP 0 bz1) _ (by conv => lhs; reduce)
def cb9 : AC := rdc (lP 1 bz1) _ (by conv => lhs; reduce)
theorem cz9 : FnText Tryz.prog 168 [] 28 2 bz1 [(4, none)] := tX Tryz.call168 follows Tryz.func168 rfl rfl (by decide) (by kernel_rfl) (by kernel_rfl)

def eb3 : AC := rdc (cO Tryz.prog [] 62 Tryz.f101) _ (by conv => lhs; reduce)
theorem ck3 : FnText Tryz.prog 101 [] 62 4 eb3 [(8, none)] := tX Tryz.call101 follows Tryz.func101 rfl rfl (by decide) (by kernel_rfl) (by kernel_rfl)

def dr5 : AC := rdc (cO Tryz.prog [] 39 Tryz.f31) _ (by conv => lhs; reduce)
def cg3 : AC := rdc (lP 0 dr5) _ (by conv => lhs; reduce)
def co7 : AC := rdc (lP 1 dr5) _ (by conv => lhs; reduce)
theorem dg0 : FnText Tryz.prog 31 [] 39 2 dr5 [(4, none)] := tX Tryz.call31 follows Tryz.func31 rfl rfl (by decide) (by kernel_rfl) (by kernel_rfl)

def ea6 : AC := rdc (cO Tryz.prog [] 26 Tryz.f32) _ (by conv => lhs; reduce)
def ch6 : AC := rdc (lP 0 ea6) _ (by conv => lhs; reduce)
theorem bu3 : FnText Tryz.prog 32 [] 26 2 ea6 [(4, none)] := tX Tryz.call32 follows Tryz.func32 rfl rfl (by decide) (by kernel_rfl) (by kernel_rfl)

def ac5 : AC := rdc (cO Tryz.prog [] 45 Tryz.f5) _ (by conv => lhs; reduce)
def dq5 : AC := rdc (lP 0 ac5) _ (by conv => lhs; reduce)
theorem dt9 : FnText Tryz.prog 5 [] 45 2 ac5 [(4, none)] := tX Tryz.call5 follows Tryz.func5 rfl rfl (by decide) (by kernel_rfl) (by kernel_rfl)

def dn0 : AC := rdc (cO Tryz.prog [] 54 Tryz.f96) _ (by conv => lhs; reduce)
def ed4 : AC := rdc (lP 0 dn0) _ (by conv => lhs; reduce)
def ed8 : AC := rdc (lP 1 dn0) _ (by conv => lhs; reduce)
theorem di9 : FnText Tryz.prog 96 [] 54 1 dn0 [(2, none)] := tX Tryz.call96 follows Tryz.func96 rfl rfl (by decide) (by kernel_rfl) (by kernel_rfl)

def du1 : AC := rdc (cO Tryz.prog [] 34 Tryz.f164) _ (by conv => lhs; reduce)
theorem ci8 : FnText Tryz.prog 164 [] 34 3 du1 [(6, none)] := tX Tryz.call164 follows Tryz.func164 rfl rfl (by decide) (by kernel_rfl) (by kernel_rfl)

def ca3 : AC := rdc (cO Tryz.prog [] 108 Tryz.f97) _ (by conv => lhs; reduce)
def ed9 : AC := rdc (lP 0 ca3) _ (by conv => lhs; reduce)
def ed5 : AC := rdc (lP 1 ca3) _ (by conv => lhs; reduce)
def ed3 : AC := rdc (lP 2 ca3) _ (by conv => lhs; reduce)
def ee1 : AC := rdc (lP 3 ca3) _ (by conv => lhs; reduce)
theorem df3 : FnText Tryz.prog 97 [] 108 1 ca3 [(2, none)] := tX Tryz.call97 follows Tryz.func97 rfl rfl (by decide) (by kernel_rfl) (by kernel_rfl)

def bm0 : AC := rdc (cO Tryz.prog [] 143 Tryz.f165) _ (by conv => lhs; reduce)
def ea4 : AC := rdc (lP 0 bm0) _ (by conv => lhs; reduce)
def eb7 : AC := rdc (lP 1 bm0) _ (by conv => lhs; reduce)
def ea9 : AC := rdc (lP 2 bm0) _ (by conv => lhs; reduce)
theorem cm7 : FnText Tryz.prog 165 [] 143 1 bm0 [(2, none)] := tX Tryz.call165 follows Tryz.func165 rfl rfl (by decide) (by kernel_rfl) (by kernel_rfl)

def dg3 : AC := rdc (cO Tryz.prog [] 49 Tryz.f98) _ (by conv => lhs; reduce)
def ee0 : AC := rdc (lP 0 dg3) _ (by conv => lhs; reduce)
def ed6 : AC := rdc (lP 1 dg3) _ (by conv => lhs; reduce)
theorem dk4 : FnText Tryz.prog 98 [] 49 2 dg3 [(4, none)] := tX Tryz.call98 follows Tryz.func98 rfl rfl (by decide) (by kernel_rfl) (by kernel_rfl)

end Go.Proofs.YtmonnlkagniolaaGreat
