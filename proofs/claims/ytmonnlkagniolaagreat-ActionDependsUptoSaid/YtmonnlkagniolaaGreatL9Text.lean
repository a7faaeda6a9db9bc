/-
 The text of each function of this seat, as the plain library tells it; each by the kernel's own reckoning from the program.
-/
import Derived.Test.YtmonnlkagniolaaGreatPbV
import Derived.Test.YtmonnlkagniolaaGreatRows
set_option linter.unusedVariables false
set_option maxRecDepth 100000
namespace Go.Proofs.YtmonnlkagniolaaGreat
open Go Go.Pb
abbrev q_ (d : Nat) (o : AOp) : AOper := ⟨some d, o, none, false⟩
abbrev t_ (n : Nat) : Operand := .tmp n
abbrev k_ (i : Int) : Operand := .const (.int .i64 i)
abbrev m_ (d n : Nat) : AOper := ⟨some d, .move (.tmp n), none, false⟩
abbrev l_ (d n : Nat) : AOper := ⟨some d, .load 1 false (.tmp n), none, false⟩
abbrev f_ (d a n : Nat) : AOper := ⟨some d, .faddr a 1 false (.tmp n), none, false⟩
abbrev n_ (d a n : Nat) : AOper := ⟨some d, .bi .len [a].toArray 3 [.tmp n], none, false⟩
abbrev r_ (l : List AOper) : AC := .region false l
abbrev z_ : Operand := .const (.slice none 0 0)
theorem follows : Tryz.prog.follows .mixedOrders = true := by kernel_rfl
def ce0 : AC := rdc (cO Tryz.prog [] 120 Tryz.f33) _ (by conv => lhs; reduce)
def cp3 : AC := rdc (lP 0 ce0) _ (by conv => lhs; reduce)
def cr1 : AC := rdc (lP 1 ce0) _ (by conv => lhs; reduce)
def ct6 : AC := rdc (lP 2 ce0) _ (by conv => lhs; reduce)
def ci4 : AC := rdc (lP 3 ce0) _ (by conv => lhs; reduce)
theorem da0 : FnText Tryz.prog 33 [] 120 1 ce0 [(2, none)] := tX Tryz.call33 follows Tryz.func33 rfl rfl (by decide) (by kernel_rfl) (by kernel_rfl)

def dk4 : AC := rdc (cO Tryz.prog [] 52 Tryz.f82) _ (by conv => lhs; reduce)
def ci2 : AC := rdc (lP 0 dk4) _ (by conv => lhs; reduce)
theorem de8 : FnText Tryz.prog 82 [] 52 2 dk4 [(4, none)] := tX Tryz.call82 follows Tryz.func82 rfl rfl (by decide) (by kernel_rfl) (by kernel_rfl)

def dy0 : AC := rdc (cO Tryz.prog [] 63 Tryz.f84) _ (by conv => lhs; reduce)
theorem dj1 : FnText Tryz.prog 84 [] 63 2 dy0 [(4, none)] := tX Tryz.call84 follows Tryz.func84 rfl rfl (by decide) (by kernel_rfl) (by kernel_rfl)

def du6 : AC := rdc (cO Tryz.prog [] 18 Tryz.f83) _ (by conv => lhs; reduce)
def cm5 : AC := rdc (lP 0 du6) _ (by conv => lhs; reduce)
theorem db5 : FnText Tryz.prog 83 [] 18 2 du6 [(4, none)] := tX Tryz.call83 follows Tryz.func83 rfl rfl (by decide) (by kernel_rfl) (by kernel_rfl)

def bq9 : AC := rdc (cO Tryz.prog [] 98 Tryz.f21) _ (by conv => lhs; reduce)
def cj8 : AC := rdc (lP 0 bq9) _ (by conv => lhs; reduce)
def cp7 : AC := rdc (lP 1 bq9) _ (by conv => lhs; reduce)
def cn4 : AC := rdc (lP 2 bq9) _ (by conv => lhs; reduce)
def cu3 : AC := rdc (lP 3 bq9) _ (by conv => lhs; reduce)
def cu4 : AC := rdc (lP 4 bq9) _ (by conv => lhs; reduce)
theorem dd9 : FnText Tryz.prog 21 [] 98 2 bq9 [(4, none)] := tX Tryz.call21 follows Tryz.func21 rfl rfl (by decide) (by kernel_rfl) (by kernel_rfl)

def dx1 : AC := rdc (cO Tryz.prog [] 13 Tryz.f162) _ (by conv => lhs; reduce)
theorem cm3 : FnText Tryz.prog 162 [] 13 1 dx1 [(2, none)] := tX Tryz.call162 follows Tryz.func162 rfl rfl (by decide) (by kernel_rfl) (by kernel_rfl)

def be6 : AC := rdc (cO Tryz.prog [] 62 Tryz.f123) _ (by conv => lhs; reduce)
def bu7 : AC := rdc (lP 0 be6) _ (by conv => lhs; reduce)
def bs0 : AC := rdc (lP 1 be6) _ (by conv => lhs; reduce)
def bv5 : AC := rdc (lP 2 be6) _ (by conv => lhs; reduce)
theorem ck1 : FnText Tryz.prog 123 [] 62 2 be6 [(4, none)] := tX Tryz.call123 follows Tryz.func123 rfl rfl (by decide) (by kernel_rfl) (by kernel_rfl)

def dy1 : AC := rdc (cO Tryz.prog [] 17 Tryz.f47) _ (by conv => lhs; reduce)
theorem dc2 : FnText Tryz.prog 47 [] 17 1 dy1 [(2, none)] := tX Tryz.call47 follows Tryz.func47 rfl rfl (by decide) (by kernel_rfl) (by kernel_rfl)

def dy4 : AC := rdc (cO Tryz.prog [1, 2, 3] 133 Tryz.f34) _ (by conv => lhs; reduce)
theorem db7 : FnText Tryz.prog 34 [1, 2, 3] 133 0 dy4 [(0, none)] := tX Tryz.call34 follows Tryz.func34 rfl rfl (by decide) (by kernel_rfl) (by kernel_rfl)

def dq7 : AC := rdc (cO Tryz.prog [] 17 Tryz.f221) _ (by conv => lhs; reduce)
theorem bg8 : FnText Tryz.prog 221 [] 17 1 dq7 [(2, none)] := tX Tryz.call221 follows Tryz.func221 rfl rfl (by decide) (by kernel_rfl) (by kernel_rfl)

def cw9 : AC := rdc (cO Tryz.prog [] 20 Tryz.f222) _ (by conv => lhs; reduce)
def ca9 : AC := rdc (lP 0 cw9) _ (by conv => lhs; reduce)
theorem bc9 : FnText Tryz.prog 222 [] 20 2 cw9 [(4, none)] := tX Tryz.call222 follows Tryz.func222 rfl rfl (by decide) (by kernel_rfl) (by kernel_rfl)

def dq2 : AC := rdc (cO Tryz.prog [] 9 Tryz.f224) _ (by conv => lhs; reduce)
theorem bi3 : FnText Tryz.prog 224 [] 9 1 dq2 [(2, none)] := tX Tryz.call224 follows Tryz.func224 rfl rfl (by decide) (by kernel_rfl) (by kernel_rfl)

def dp4 : AC := rdc (cO Tryz.prog [] 13 Tryz.f223) _ (by conv => lhs; reduce)
theorem bk0 : FnText Tryz.prog 223 [] 13 1 dp4 [(2, none)] := tX Tryz.call223 follows Tryz.func223 rfl rfl (by decide) (by kernel_rfl) (by kernel_rfl)

def dk3 : AC := rdc (cO Tryz.prog [] 22 Tryz.f169) _ (by conv => lhs; reduce)
theorem bf7 : FnText Tryz.prog 169 [] 22 1 dk3 [(2, none)] := tX Tryz.call169 follows Tryz.func169 rfl rfl (by decide) (by kernel_rfl) (by kernel_rfl)

def ds7 : AC := rdc (cO Tryz.prog [] 9 Tryz.f171) _ (by conv => lhs; reduce)
theorem bj1 : FnText Tryz.prog 171 [] 9 2 ds7 [(3, none)] := tX Tryz.call171 follows Tryz.func171 rfl rfl (by decide) (by kernel_rfl) (by kernel_rfl)

def cx3 : AC := rdc (cO Tryz.prog [] 19 Tryz.f225) _ (by conv => lhs; reduce)
def cb0 : AC := rdc (lP 0 cx3) _ (by conv => lhs; reduce)
theorem bn9 : FnText Tryz.prog 225 [] 19 2 cx3 [(4, none)] := tX Tryz.call225 follows Tryz.func225 rfl rfl (by decide) (by kernel_rfl) (by kernel_rfl)

def dw4 : AC := rdc (cO Tryz.prog [] 9 Tryz.f170) _ (by conv => lhs; reduce)
theorem bh2 : FnText Tryz.prog 170 [] 9 2 dw4 [(4, none)] := tX Tryz.call170 follows Tryz.func170 rfl rfl (by decide) (by kernel_rfl) (by kernel_rfl)

def cx5 : AC := rdc (cO Tryz.prog [4] 51 Tryz.f103) _ (by conv => lhs; reduce)
def bt1 : AC := rdc (lP 0 cx5) _ (by conv => lhs; reduce)
theorem bl1 : FnText Tryz.prog 103 [4] 51 1 cx5 [(2, none)] := tX Tryz.call103 follows Tryz.func103 rfl rfl (by decide) (by kernel_rfl) (by kernel_rfl)

def dr2 : AC := rdc (cO Tryz.prog [] 46 Tryz.f172) _ (by conv => lhs; reduce)
theorem be3 : FnText Tryz.prog 172 [] 46 2 dr2 [(4, none), (5, none)] := tX Tryz.call172 follows Tryz.func172 rfl rfl (by decide) (by kernel_rfl) (by kernel_rfl)

def dt2 : AC := rdc (cO Tryz.prog [] 25 Tryz.f267) _ (by conv => lhs; reduce)
theorem bg7 : FnText Tryz.prog 267 [] 25 1 dt2 [(2, none)] := tX Tryz.call267 follows Tryz.func267 rfl rfl (by decide) (by kernel_rfl) (by kernel_rfl)

def dj3 : AC := rdc (cO Tryz.prog [] 11 Tryz.f287) _ (by conv => lhs; reduce)
theorem bc8 : FnText Tryz.prog 287 [] 11 1 dj3 [(2, none), (3, none)] := tX Tryz.call287 follows Tryz.func287 rfl rfl (by decide) (by kernel_rfl) (by kernel_rfl)

def cy9 : AC := rdc (cO Tryz.prog [] 18 Tryz.f181) _ (by conv => lhs; reduce)
def bv3 : AC := rdc (lP 0 cy9) _ (by conv => lhs; reduce)
theorem bl4 : FnText Tryz.prog 181 [] 18 1 cy9 [(2, none)] := tX Tryz.call181 follows Tryz.func181 rfl rfl (by decide) (by kernel_rfl) (by kernel_rfl)

def dn1 : AC := rdc (cO Tryz.prog [] 10 Tryz.f182) _ (by conv => lhs; reduce)
theorem bg5 : FnText Tryz.prog 182 [] 10 1 dn1 [(2, none)] := tX Tryz.call182 follows Tryz.func182 rfl rfl (by decide) (by kernel_rfl) (by kernel_rfl)

def cx7 : AC := rdc (cO Tryz.prog [6] 45 Tryz.f288) _ (by conv => lhs; reduce)
theorem bn7 : FnText Tryz.prog 288 [6] 45 3 cx7 [(6, some (2, true)), (7, none)] := tX Tryz.call288 follows Tryz.func288 rfl rfl (by decide) (by kernel_rfl) (by kernel_rfl)

def dj5 : AC := rdc (cO Tryz.prog [8] 90 Tryz.f268) _ (by conv => lhs; reduce)
theorem be5 : FnText Tryz.prog 268 [8] 90 2 dj5 [(4, none), (5, none)] := tX Tryz.call268 follows Tryz.func268 rfl rfl (by decide) (by kernel_rfl) (by kernel_rfl)

def dl1 : AC := rdc (cO Tryz.prog [] 91 Tryz.f269) _ (by conv => lhs; reduce)
theorem bo0 : FnText Tryz.prog 269 [] 91 2 dl1 [(4, none), (5, none)] := tX Tryz.call269 follows Tryz.func269 rfl rfl (by decide) (by kernel_rfl) (by kernel_rfl)

def cx9 : AC := rdc (cO Tryz.prog [10] 73 Tryz.f226) _ (by conv => lhs; reduce)
def cc6 : AC := rdc (lP 0 cx9) _ (by conv => lhs; reduce)
theorem bg2 : FnText Tryz.prog 226 [10] 73 3 cx9 [(6, none), (7, none), (8, none)] := tX Tryz.call226 follows Tryz.func226 rfl rfl (by decide) (by kernel_rfl) (by kernel_rfl)

def dn6 : AC := rdc (cO Tryz.prog [] 27 Tryz.f174) _ (by conv => lhs; reduce)
theorem bi2 : FnText Tryz.prog 174 [] 27 2 dn6 [(4, none), (5, none)] := tX Tryz.call174 follows Tryz.func174 rfl rfl (by decide) (by kernel_rfl) (by kernel_rfl)

def do7 : AC := rdc (cO Tryz.prog [] 24 Tryz.f173) _ (by conv => lhs; reduce)
theorem bb6 : FnText Tryz.prog 173 [] 24 3 do7 [(6, none)] := tX Tryz.call173 follows Tryz.func173 rfl rfl (by decide) (by kernel_rfl) (by kernel_rfl)

def dl5 : AC := rdc (cO Tryz.prog [5] 105 Tryz.f104) _ (by conv => lhs; reduce)
theorem bc3 : FnText Tryz.prog 104 [5] 105 2 dl5 [(4, none)] := tX Tryz.call104 follows Tryz.func104 rfl rfl (by decide) (by kernel_rfl) (by kernel_rfl)

def dm8 : AC := rdc (cO Tryz.prog [6, 7, 9] 50 Tryz.f35) _ (by conv => lhs; reduce)
def cq9 : AC := rdc (lP 0 dm8) _ (by conv => lhs; reduce)
theorem by6 : FnText Tryz.prog 35 [6, 7, 9] 50 2 dm8 [(4, none), (5, none)] := tX Tryz.call35 follows Tryz.func35 rfl rfl (by decide) (by kernel_rfl) (by kernel_rfl)

def dq8 : AC := rdc (cO Tryz.prog [] 21 Tryz.f108) _ (by conv => lhs; reduce)
theorem bm8 : FnText Tryz.prog 108 [] 21 2 dq8 [(4, none)] := tX Tryz.call108 follows Tryz.func108 rfl rfl (by decide) (by kernel_rfl) (by kernel_rfl)

def dj9 : AC := rdc (cO Tryz.prog [] 6 Tryz.f206) _ (by conv => lhs; reduce)
theorem bn6 : FnText Tryz.prog 206 [] 6 1 dj9 [(2, none)] := tX Tryz.call206 follows Tryz.func206 rfl rfl (by decide) (by kernel_rfl) (by kernel_rfl)

def dj7 : AC := rdc (cO Tryz.prog [] 20 Tryz.f141) _ (by conv => lhs; reduce)
theorem bn2 : FnText Tryz.prog 141 [] 20 2 dj7 [(4, none)] := tX Tryz.call141 follows Tryz.func141 rfl rfl (by decide) (by kernel_rfl) (by kernel_rfl)

def cz0 : AC := rdc (cO Tryz.prog [] 18 Tryz.f140) _ (by conv => lhs; reduce)
def cf8 : AC := rdc (lP 0 cz0) _ (by conv => lhs; reduce)
theorem bf0 : FnText Tryz.prog 140 [] 18 1 cz0 [(2, none)] := tX Tryz.call140 follows Tryz.func140 rfl rfl (by decide) (by kernel_rfl) (by kernel_rfl)

def do0 : AC := rdc (cO Tryz.prog [] 17 Tryz.f139) _ (by conv => lhs; reduce)
theorem ao0 : FnText Tryz.prog 139 [] 17 2 do0 [(4, none)] := tX Tryz.call139 follows Tryz.func139 rfl rfl (by decide) (by kernel_rfl) (by kernel_rfl)

def do5 : AC := rdc (cO Tryz.prog [] 17 Tryz.f179) _ (by conv => lhs; reduce)
theorem an8 : FnText Tryz.prog 179 [] 17 2 do5 [(4, none)] := tX Tryz.call179 follows Tryz.func179 rfl rfl (by decide) (by kernel_rfl) (by kernel_rfl)

def do1 : AC := rdc (cO Tryz.prog [] 14 Tryz.f138) _ (by conv => lhs; reduce)
theorem ar1 : FnText Tryz.prog 138 [] 14 2 do1 [] := tX Tryz.call138 follows Tryz.func138 rfl rfl (by decide) (by kernel_rfl) (by kernel_rfl)

def zc : AC :=
 .seq (.seq (r_ [m_ 29 5,
 m_ 30 4,
 n_ 31 75 30,
 q_ 32 (.bin .lss 3 (t_ 29) (t_ 31))])
 (.cond (t_ 32)
 (.skip)
 (.exit 2)))
 (.seq (.block 3 (.seq (.region true [m_ 35 4,
 m_ 36 5,
 q_ 37 (.iaddr 2 (t_ 35) (t_ 36)),
 q_ 38 (.load 2 true (t_ 37)),
 m_ 39 4,
 m_ 40 5,
 q_ 41 (.bin .sub 3 (t_ 40) (k_ 1)),
 q_ 42 (.iaddr 2 (t_ 39) (t_ 41)),
 q_ 43 (.load 2 true (t_ 42)),
 q_ 44 (.bin .neq 87 (t_ 38) (t_ 43))])
 (.cond (t_ 44)
 (.seq (r_ [m_ 45 0,
 m_ 46 3,
 m_ 47 4,
 m_ 48 5,
 q_ 49 (.iaddr 2 (t_ 47) (t_ 48)),
 q_ 50 (.load 2 true (t_ 49)),
 q_ 51 (.iaddr 2 (t_ 45) (t_ 46)),
 ⟨none, .store 2 (t_ 51) (t_ 50), none, false⟩])
 (r_ [m_ 52 3,
 q_ 53 (.bin .add 3 (t_ 52) (k_ 1)),
 m_ 3 53]))
 (.skip))))
 (r_ [m_ 33 5,
 q_ 34 (.bin .add 3 (t_ 33) (k_ 1)),
 m_ 5 34]))
def zj : AC :=
 .seq (.seq (r_ [m_ 10 3,
 m_ 11 0,
 n_ 12 75 11,
 q_ 13 (.bin .lss 3 (t_ 10) (t_ 12))])
 (.cond (t_ 13)
 (.skip)
 (.exit 0)))
 (.seq (.block 1 (.seq (.region true [m_ 16 0,
 m_ 17 3,
 q_ 18 (.iaddr 2 (t_ 16) (t_ 17)),
 q_ 19 (.load 2 true (t_ 18)),
 m_ 20 0,
 m_ 21 3,
 q_ 22 (.bin .sub 3 (t_ 21) (k_ 1)),
 q_ 23 (.iaddr 2 (t_ 20) (t_ 22)),
 q_ 24 (.load 2 true (t_ 23)),
 q_ 25 (.bin .eql 87 (t_ 19) (t_ 24))])
 (.cond (t_ 25)
 (.seq (r_ [m_ 26 0,
 m_ 27 3,
 (q_ 28 (.slice 75 2 (t_ 26) (some (t_ 27)) none none)),
 m_ 4 28])
 (.seq (.seq (r_ [q_ 5 (.move (k_ 1))])
 (.block 2 (.loop zc)))
 (.seq (r_ [m_ 54 0,
 m_ 55 3,
 (q_ 56 (.slice 75 2 (t_ 54) (some (t_ 55)) none none)),
 ⟨none, .clr 2 (.agg [(.int .i64 0), (.int .i64 0)].toArray) (t_ 56), none, false⟩])
 (.seq (r_ [m_ 57 0,
 m_ 58 3,
 (q_ 59 (.slice 75 2 (t_ 57) none (some (t_ 58)) none)),
 m_ 2 59])
 (.ret)))))
 (.skip))))
 (r_ [m_ 14 3,
 q_ 15 (.bin .add 3 (t_ 14) (k_ 1)),
 m_ 3 15]))
/-- slices.Compact[[]patchbay/api.FieldRef,patchbay/api.FieldRef] -/
def bs9 : AC :=
 .seq (r_ [q_ 2 (.move z_)])
 (.seq (.seq (r_ [m_ 6 0,
 n_ 7 75 6,
 q_ 8 (.bin .lss 3 (t_ 7) (k_ 2))])
 (.cond (t_ 8)
 (.seq (r_ [m_ 9 0,
 m_ 2 9])
 (.ret))
 (.skip)))
 (.seq (.seq (r_ [q_ 3 (.move (k_ 1))])
 (.block 0 (.loop zj)))
 (.seq (r_ [m_ 60 0,
 m_ 2 60])
 (.ret))))
theorem bf1 : FnText Tryz.prog 142 [] 61 1 bs9 [(2, none)] :=
 ⟨Tryz.call142, follows, Tryz.f142, _, Tryz.func142, rfl, rfl, by decide, by kernel_rfl, by kernel_rfl⟩

def du5 : AC := rdc (cO Tryz.prog [5] 28 Tryz.f66) _ (by conv => lhs; reduce)
def ch0 : AC := rdc (lP 0 du5) _ (by conv => lhs; reduce)
theorem cb1 : FnText Tryz.prog 66 [5] 28 1 du5 [(2, none)] := tX Tryz.call66 follows Tryz.func66 rfl rfl (by decide) (by kernel_rfl) (by kernel_rfl)

def dr7 : AC := rdc (cO Tryz.prog [] 11 Tryz.f143) _ (by conv => lhs; reduce)
theorem bm2 : FnText Tryz.prog 143 [] 11 1 dr7 [] := tX Tryz.call143 follows Tryz.func143 rfl rfl (by decide) (by kernel_rfl) (by kernel_rfl)

def zi : AC :=
 .seq (.seq (r_ [m_ 29 5,
 m_ 30 4,
 n_ 31 29 30,
 q_ 32 (.bin .lss 3 (t_ 29) (t_ 31))])
 (.cond (t_ 32)
 (.skip)
 (.exit 2)))
 (.seq (.block 3 (.seq (.region true [m_ 35 4,
 m_ 36 5,
 q_ 37 (.iaddr 1 (t_ 35) (t_ 36)),
 l_ 38 37,
 m_ 39 4,
 m_ 40 5,
 q_ 41 (.bin .sub 3 (t_ 40) (k_ 1)),
 q_ 42 (.iaddr 1 (t_ 39) (t_ 41)),
 l_ 43 42,
 q_ 44 (.bin .neq 3 (t_ 38) (t_ 43))])
 (.cond (t_ 44)
 (.seq (r_ [m_ 45 0,
 m_ 46 3,
 m_ 47 4,
 m_ 48 5,
 q_ 49 (.iaddr 1 (t_ 47) (t_ 48)),
 l_ 50 49,
 q_ 51 (.iaddr 1 (t_ 45) (t_ 46)),
 ⟨none, .store 1 (t_ 51) (t_ 50), none, false⟩])
 (r_ [m_ 52 3,
 q_ 53 (.bin .add 3 (t_ 52) (k_ 1)),
 m_ 3 53]))
 (.skip))))
 (r_ [m_ 33 5,
 q_ 34 (.bin .add 3 (t_ 33) (k_ 1)),
 m_ 5 34]))
def yt : AC :=
 .seq (.seq (r_ [m_ 10 3,
 m_ 11 0,
 n_ 12 29 11,
 q_ 13 (.bin .lss 3 (t_ 10) (t_ 12))])
 (.cond (t_ 13)
 (.skip)
 (.exit 0)))
 (.seq (.block 1 (.seq (.region true [m_ 16 0,
 m_ 17 3,
 q_ 18 (.iaddr 1 (t_ 16) (t_ 17)),
 l_ 19 18,
 m_ 20 0,
 m_ 21 3,
 q_ 22 (.bin .sub 3 (t_ 21) (k_ 1)),
 q_ 23 (.iaddr 1 (t_ 20) (t_ 22)),
 l_ 24 23,
 q_ 25 (.bin .eql 3 (t_ 19) (t_ 24))])
 (.cond (t_ 25)
 (.seq (r_ [m_ 26 0,
 m_ 27 3,
 (q_ 28 (.slice 29 1 (t_ 26) (some (t_ 27)) none none)),
 m_ 4 28])
 (.seq (.seq (r_ [q_ 5 (.move (k_ 1))])
 (.block 2 (.loop zi)))
 (.seq (r_ [m_ 54 0,
 m_ 55 3,
 (q_ 56 (.slice 29 1 (t_ 54) (some (t_ 55)) none none)),
 ⟨none, .clr 1 (.int .i64 0) (t_ 56), none, false⟩])
 (.seq (r_ [m_ 57 0,
 m_ 58 3,
 (q_ 59 (.slice 29 1 (t_ 57) none (some (t_ 58)) none)),
 m_ 2 59])
 (.ret)))))
 (.skip))))
 (r_ [m_ 14 3,
 q_ 15 (.bin .add 3 (t_ 14) (k_ 1)),
 m_ 3 15]))
/-- slices.Compact[[]int,int] -/
def cd3 : AC :=
 .seq (r_ [q_ 2 (.move z_)])
 (.seq (.seq (r_ [m_ 6 0,
 n_ 7 29 6,
 q_ 8 (.bin .lss 3 (t_ 7) (k_ 2))])
 (.cond (t_ 8)
 (.seq (r_ [m_ 9 0,
 m_ 2 9])
 (.ret))
 (.skip)))
 (.seq (.seq (r_ [q_ 3 (.move (k_ 1))])
 (.block 0 (.loop yt)))
 (.seq (r_ [m_ 60 0,
 m_ 2 60])
 (.ret))))
theorem bd2 : FnText Tryz.prog 144 [] 61 1 cd3 [(2, none)] :=
 ⟨Tryz.call144, follows, Tryz.f144, _, Tryz.func144, rfl, rfl, by decide, by kernel_rfl, by kernel_rfl⟩

def dp6 : AC := rdc (cO Tryz.prog [5] 25 Tryz.f67) _ (by conv => lhs; reduce)
def cq6 : AC := rdc (lP 0 dp6) _ (by conv => lhs; reduce)
theorem bs8 : FnText Tryz.prog 67 [5] 25 1 dp6 [(2, none)] := tX Tryz.call67 follows Tryz.func67 rfl rfl (by decide) (by kernel_rfl) (by kernel_rfl)

def dk8 : AC := rdc (cO Tryz.prog [] 24 Tryz.f109) _ (by conv => lhs; reduce)
theorem be1 : FnText Tryz.prog 109 [] 24 2 dk8 [] := tX Tryz.call109 follows Tryz.func109 rfl rfl (by decide) (by kernel_rfl) (by kernel_rfl)

def do6 : AC := rdc (cO Tryz.prog [1000000] 35 Tryz.f110) _ (by conv => lhs; reduce)
theorem cq3 : FnText Tryz.prog 110 [1000000] 35 1 do6 [(2, none), (3, none), (4, none)] := tX Tryz.call110 follows Tryz.func110 rfl rfl (by decide) (by kernel_rfl) (by kernel_rfl)

def dh6 : AC := rdc (cO Tryz.prog [7, 9] 81 Tryz.f37) _ (by conv => lhs; reduce)
def cg8 : AC := rdc (lP 0 dh6) _ (by conv => lhs; reduce)
theorem by5 : FnText Tryz.prog 37 [7, 9] 81 2 dh6 [(4, none), (5, none), (6, none)] := tX Tryz.call37 follows Tryz.func37 rfl rfl (by decide) (by kernel_rfl) (by kernel_rfl)

def cp8 : AC := rdc (cO Tryz.prog [7, 9] 76 Tryz.f39) _ (by conv => lhs; reduce)
def cl7 : AC := rdc (lP 0 cp8) _ (by conv => lhs; reduce)
def cn7 : AC := rdc (lP 1 cp8) _ (by conv => lhs; reduce)
theorem cf5 : FnText Tryz.prog 39 [7, 9] 76 2 cp8 [(4, none), (5, none), (6, none)] := tX Tryz.call39 follows Tryz.func39 rfl rfl (by decide) (by kernel_rfl) (by kernel_rfl)

def dl2 : AC := rdc (cO Tryz.prog [] 47 Tryz.f124) _ (by conv => lhs; reduce)
theorem ck0 : FnText Tryz.prog 124 [] 47 2 dl2 [(4, none)] := tX Tryz.call124 follows Tryz.func124 rfl rfl (by decide) (by kernel_rfl) (by kernel_rfl)

def dy3 : AC := rdc (cO Tryz.prog [] 21 Tryz.f93) _ (by conv => lhs; reduce)
theorem di5 : FnText Tryz.prog 93 [] 21 2 dy3 [(4, none)] := tX Tryz.call93 follows Tryz.func93 rfl rfl (by decide) (by kernel_rfl) (by kernel_rfl)

def dy5 : AC := rdc (cO Tryz.prog [] 33 Tryz.f49) _ (by conv => lhs; reduce)
theorem de3 : FnText Tryz.prog 49 [] 33 2 dy5 [(4, none)] := tX Tryz.call49 follows Tryz.func49 rfl rfl (by decide) (by kernel_rfl) (by kernel_rfl)

def dr4 : AC := rdc (cO Tryz.prog [] 26 Tryz.f51) _ (by conv => lhs; reduce)
def ck5 : AC := rdc (lP 0 dr4) _ (by conv => lhs; reduce)
theorem cd9 : FnText Tryz.prog 51 [] 26 2 dr4 [(4, none)] := tX Tryz.call51 follows Tryz.func51 rfl rfl (by decide) (by kernel_rfl) (by kernel_rfl)

def cv0 : AC := rdc (cO Tryz.prog [] 140 Tryz.f52) _ (by conv => lhs; reduce)
def cs3 : AC := rdc (lP 0 cv0) _ (by conv => lhs; reduce)
def cp4 : AC := rdc (lP 1 cv0) _ (by conv => lhs; reduce)
def cp2 : AC := rdc (lP 2 cv0) _ (by conv => lhs; reduce)
theorem dh4 : FnText Tryz.prog 52 [] 140 5 cv0 [(10, none)] := tX Tryz.call52 follows Tryz.func52 rfl rfl (by decide) (by kernel_rfl) (by kernel_rfl)

def cb4 : AC := rdc (cO Tryz.prog [] 17 Tryz.f185) _ (by conv => lhs; reduce)
def as3 : AC := rdc (lP 0 cb4) _ (by conv => lhs; reduce)
theorem an3 : FnText Tryz.prog 185 [] 17 1 cb4 [(2, none)] := tX Tryz.call185 follows Tryz.func185 rfl rfl (by decide) (by kernel_rfl) (by kernel_rfl)

def cg0 : AC := rdc (cO Tryz.prog [] 17 Tryz.f186) _ (by conv => lhs; reduce)
def as1 : AC := rdc (lP 0 cg0) _ (by conv => lhs; reduce)
theorem aq0 : FnText Tryz.prog 186 [] 17 1 cg0 [(2, none)] := tX Tryz.call186 follows Tryz.func186 rfl rfl (by decide) (by kernel_rfl) (by kernel_rfl)

def bx6 : AC := rdc (cO Tryz.prog [] 17 Tryz.f187) _ (by conv => lhs; reduce)
def as7 : AC := rdc (lP 0 bx6) _ (by conv => lhs; reduce)
theorem an9 : FnText Tryz.prog 187 [] 17 1 bx6 [(2, none)] := tX Tryz.call187 follows Tryz.func187 rfl rfl (by decide) (by kernel_rfl) (by kernel_rfl)

def cw2 : AC := rdc (cO Tryz.prog [2, 3, 1000003] 36 Tryz.f116) _ (by conv => lhs; reduce)
def bx0 : AC := rdc (lP 0 cw2) _ (by conv => lhs; reduce)
theorem bf2 : FnText Tryz.prog 116 [2, 3, 1000003] 36 1 cw2 [(2, some (4, true))] := tX Tryz.call116 follows Tryz.func116 rfl rfl (by decide) (by kernel_rfl) (by kernel_rfl)

def do2 : AC := rdc (cO Tryz.prog [4] 19 Tryz.f233) _ (by conv => lhs; reduce)
theorem bi6 : FnText Tryz.prog 233 [4] 19 2 do2 [(4, some (2, true))] := tX Tryz.call233 follows Tryz.func233 rfl rfl (by decide) (by kernel_rfl) (by kernel_rfl)

def du3 : AC := rdc (cO Tryz.prog [] 14 Tryz.f203) _ (by conv => lhs; reduce)
theorem be4 : FnText Tryz.prog 203 [] 14 2 du3 [(4, none)] := tX Tryz.call203 follows Tryz.func203 rfl rfl (by decide) (by kernel_rfl) (by kernel_rfl)

def dp0 : AC := rdc (cO Tryz.prog [4] 19 Tryz.f202) _ (by conv => lhs; reduce)
theorem bi1 : FnText Tryz.prog 202 [4] 19 2 dp0 [(4, some (2, true))] := tX Tryz.call202 follows Tryz.func202 rfl rfl (by decide) (by kernel_rfl) (by kernel_rfl)

def dm0 : AC := rdc (cO Tryz.prog [] 18 Tryz.f136) _ (by conv => lhs; reduce)
theorem bh3 : FnText Tryz.prog 136 [] 18 2 dm0 [(4, none)] := tX Tryz.call136 follows Tryz.func136 rfl rfl (by decide) (by kernel_rfl) (by kernel_rfl)

def dj4 : AC := rdc (cO Tryz.prog [] 13 Tryz.f270) _ (by conv => lhs; reduce)
theorem bh8 : FnText Tryz.prog 270 [] 13 2 dj4 [(4, none)] := tX Tryz.call270 follows Tryz.func270 rfl rfl (by decide) (by kernel_rfl) (by kernel_rfl)

def dk2 : AC := rdc (cO Tryz.prog [] 19 Tryz.f271) _ (by conv => lhs; reduce)
theorem ao1 : FnText Tryz.prog 271 [] 19 2 dk2 [(4, none)] := tX Tryz.call271 follows Tryz.func271 rfl rfl (by decide) (by kernel_rfl) (by kernel_rfl)

def dl4 : AC := rdc (cO Tryz.prog [] 19 Tryz.f272) _ (by conv => lhs; reduce)
theorem bb7 : FnText Tryz.prog 272 [] 19 2 dl4 [(4, none)] := tX Tryz.call272 follows Tryz.func272 rfl rfl (by decide) (by kernel_rfl) (by kernel_rfl)

def cy6 : AC := rdc (cO Tryz.prog [] 36 Tryz.f227) _ (by conv => lhs; reduce)
theorem ap9 : FnText Tryz.prog 227 [] 36 2 cy6 [(4, none), (5, none)] := tX Tryz.call227 follows Tryz.func227 rfl rfl (by decide) (by kernel_rfl) (by kernel_rfl)

def do4 : AC := rdc (cO Tryz.prog [8, 9] 38 Tryz.f188) _ (by conv => lhs; reduce)
theorem bd0 : FnText Tryz.prog 188 [8, 9] 38 4 do4 [(8, some (4, true))] := tX Tryz.call188 follows Tryz.func188 rfl rfl (by decide) (by kernel_rfl) (by kernel_rfl)

def cy3 : AC := rdc (cO Tryz.prog [] 30 Tryz.f117) _ (by conv => lhs; reduce)
def dq5 : AC := rdc (lP 0 cy3) _ (by conv => lhs; reduce)
theorem bj4 : FnText Tryz.prog 117 [] 30 1 cy3 [(2, none)] := tX Tryz.call117 follows Tryz.func117 rfl rfl (by decide) (by kernel_rfl) (by kernel_rfl)

def ds6 : AC := rdc (cO Tryz.prog [] 14 Tryz.f114) _ (by conv => lhs; reduce)
theorem bi7 : FnText Tryz.prog 114 [] 14 2 ds6 [(4, none)] := tX Tryz.call114 follows Tryz.func114 rfl rfl (by decide) (by kernel_rfl) (by kernel_rfl)

def du1 : AC := rdc (cO Tryz.prog [] 49 Tryz.f41) _ (by conv => lhs; reduce)
def co9 : AC := rdc (lP 0 du1) _ (by conv => lhs; reduce)
theorem ce9 : FnText Tryz.prog 41 [] 49 2 du1 [(4, none)] := tX Tryz.call41 follows Tryz.func41 rfl rfl (by decide) (by kernel_rfl) (by kernel_rfl)

def dp7 : AC := rdc (cO Tryz.prog [] 20 Tryz.f294) _ (by conv => lhs; reduce)
theorem bl3 : FnText Tryz.prog 294 [] 20 2 dp7 [(4, none)] := tX Tryz.call294 follows Tryz.func294 rfl rfl (by decide) (by kernel_rfl) (by kernel_rfl)

def dn8 : AC := rdc (cO Tryz.prog [4] 82 Tryz.f289) _ (by conv => lhs; reduce)
theorem bf6 : FnText Tryz.prog 289 [4] 82 2 dn8 [(4, some (2, true))] := tX Tryz.call289 follows Tryz.func289 rfl rfl (by decide) (by kernel_rfl) (by kernel_rfl)

def dt8 : AC := rdc (cO Tryz.prog [] 10 Tryz.f295) _ (by conv => lhs; reduce)
theorem bm0 : FnText Tryz.prog 295 [] 10 2 dt8 [(4, none)] := tX Tryz.call295 follows Tryz.func295 rfl rfl (by decide) (by kernel_rfl) (by kernel_rfl)

def dr8 : AC := rdc (cO Tryz.prog [] 14 Tryz.f296) _ (by conv => lhs; reduce)
theorem bk2 : FnText Tryz.prog 296 [] 14 3 dr8 [(6, none)] := tX Tryz.call296 follows Tryz.func296 rfl rfl (by decide) (by kernel_rfl) (by kernel_rfl)

def ds2 : AC := rdc (cO Tryz.prog [] 14 Tryz.f297) _ (by conv => lhs; reduce)
theorem bn0 : FnText Tryz.prog 297 [] 14 3 ds2 [(6, none)] := tX Tryz.call297 follows Tryz.func297 rfl rfl (by decide) (by kernel_rfl) (by kernel_rfl)

def dt7 : AC := rdc (cO Tryz.prog [] 27 Tryz.f298) _ (by conv => lhs; reduce)
theorem bg1 : FnText Tryz.prog 298 [] 27 3 dt7 [(6, none)] := tX Tryz.call298 follows Tryz.func298 rfl rfl (by decide) (by kernel_rfl) (by kernel_rfl)

def dt9 : AC := rdc (cO Tryz.prog [4] 51 Tryz.f290) _ (by conv => lhs; reduce)
theorem bk4 : FnText Tryz.prog 290 [4] 51 2 dt9 [(4, some (2, true))] := tX Tryz.call290 follows Tryz.func290 rfl rfl (by decide) (by kernel_rfl) (by kernel_rfl)

def ds8 : AC := rdc (cO Tryz.prog [] 13 Tryz.f299) _ (by conv => lhs; reduce)
theorem bf3 : FnText Tryz.prog 299 [] 13 3 ds8 [(6, none)] := tX Tryz.call299 follows Tryz.func299 rfl rfl (by decide) (by kernel_rfl) (by kernel_rfl)

def dq3 : AC := rdc (cO Tryz.prog [] 13 Tryz.f300) _ (by conv => lhs; reduce)
theorem bk8 : FnText Tryz.prog 300 [] 13 3 dq3 [(6, none)] := tX Tryz.call300 follows Tryz.func300 rfl rfl (by decide) (by kernel_rfl) (by kernel_rfl)

def dw1 : AC := rdc (cO Tryz.prog [] 32 Tryz.f301) _ (by conv => lhs; reduce)
theorem bk1 : FnText Tryz.prog 301 [] 32 4 dw1 [(8, none), (9, none)] := tX Tryz.call301 follows Tryz.func301 rfl rfl (by decide) (by kernel_rfl) (by kernel_rfl)

def dv8 : AC := rdc (cO Tryz.prog [2] 6 Tryz.f302) _ (by conv => lhs; reduce)
theorem bg9 : FnText Tryz.prog 302 [2] 6 1 dv8 [(2, some (2, true))] := tX Tryz.call302 follows Tryz.func302 rfl rfl (by decide) (by kernel_rfl) (by kernel_rfl)

def dk7 : AC := rdc (cO Tryz.prog [6] 99 Tryz.f291) _ (by conv => lhs; reduce)
theorem bg3 : FnText Tryz.prog 291 [6] 99 3 dk7 [(6, some (2, true))] := tX Tryz.call291 follows Tryz.func291 rfl rfl (by decide) (by kernel_rfl) (by kernel_rfl)

def dl3 : AC := rdc (cO Tryz.prog [2, 3, 4, 5, 6, 7, 8, 1000000] 62 Tryz.f273) _ (by conv => lhs; reduce)
theorem bf5 : FnText Tryz.prog 273 [2, 3, 4, 5, 6, 7, 8, 1000000] 62 1 dl3 [(2, some (2, true))] := tX Tryz.call273 follows Tryz.func273 rfl rfl (by decide) (by kernel_rfl) (by kernel_rfl)

def dt4 : AC := rdc (cO Tryz.prog [11] 27 Tryz.f228) _ (by conv => lhs; reduce)
theorem bd6 : FnText Tryz.prog 228 [11] 27 4 dt4 [(8, none)] := tX Tryz.call228 follows Tryz.func228 rfl rfl (by decide) (by kernel_rfl) (by kernel_rfl)

def dn5 : AC := rdc (cO Tryz.prog [] 19 Tryz.f189) _ (by conv => lhs; reduce)
theorem bo1 : FnText Tryz.prog 189 [] 19 2 dn5 [(4, none)] := tX Tryz.call189 follows Tryz.func189 rfl rfl (by decide) (by kernel_rfl) (by kernel_rfl)

def dr9 : AC := rdc (cO Tryz.prog [] 23 Tryz.f118) _ (by conv => lhs; reduce)
theorem bd7 : FnText Tryz.prog 118 [] 23 2 dr9 [] := tX Tryz.call118 follows Tryz.func118 rfl rfl (by decide) (by kernel_rfl) (by kernel_rfl)

def dr5 : AC := rdc (cO Tryz.prog [] 13 Tryz.f274) _ (by conv => lhs; reduce)
theorem bc5 : FnText Tryz.prog 274 [] 13 2 dr5 [(4, none)] := tX Tryz.call274 follows Tryz.func274 rfl rfl (by decide) (by kernel_rfl) (by kernel_rfl)

def dk6 : AC := rdc (cO Tryz.prog [] 13 Tryz.f275) _ (by conv => lhs; reduce)
theorem bd1 : FnText Tryz.prog 275 [] 13 2 dk6 [(4, none)] := tX Tryz.call275 follows Tryz.func275 rfl rfl (by decide) (by kernel_rfl) (by kernel_rfl)

def dt3 : AC := rdc (cO Tryz.prog [10, 11] 49 Tryz.f229) _ (by conv => lhs; reduce)
theorem bj0 : FnText Tryz.prog 229 [10, 11] 49 5 dt3 [(10, some (4, true))] := tX Tryz.call229 follows Tryz.func229 rfl rfl (by decide) (by kernel_rfl) (by kernel_rfl)

def dl6 : AC := rdc (cO Tryz.prog [6] 11 Tryz.f190) _ (by conv => lhs; reduce)
theorem bl2 : FnText Tryz.prog 190 [6] 11 3 dl6 [(6, some (4, true))] := tX Tryz.call190 follows Tryz.func190 rfl rfl (by decide) (by kernel_rfl) (by kernel_rfl)

def dv9 : AC := rdc (cO Tryz.prog [] 19 Tryz.f119) _ (by conv => lhs; reduce)
theorem bk3 : FnText Tryz.prog 119 [] 19 2 dv9 [] := tX Tryz.call119 follows Tryz.func119 rfl rfl (by decide) (by kernel_rfl) (by kernel_rfl)

def do9 : AC := rdc (cO Tryz.prog [6] 11 Tryz.f191) _ (by conv => lhs; reduce)
theorem bi0 : FnText Tryz.prog 191 [6] 11 3 do9 [(6, some (4, true))] := tX Tryz.call191 follows Tryz.func191 rfl rfl (by decide) (by kernel_rfl) (by kernel_rfl)

def do3 : AC := rdc (cO Tryz.prog [] 19 Tryz.f120) _ (by conv => lhs; reduce)
theorem bc6 : FnText Tryz.prog 120 [] 19 2 do3 [] := tX Tryz.call120 follows Tryz.func120 rfl rfl (by decide) (by kernel_rfl) (by kernel_rfl)

def do8 : AC := rdc (cO Tryz.prog [] 45 Tryz.f230) _ (by conv => lhs; reduce)
theorem bl5 : FnText Tryz.prog 230 [] 45 3 do8 [(6, none)] := tX Tryz.call230 follows Tryz.func230 rfl rfl (by decide) (by kernel_rfl) (by kernel_rfl)

def dn0 : AC := rdc (cO Tryz.prog [] 25 Tryz.f192) _ (by conv => lhs; reduce)
theorem bd3 : FnText Tryz.prog 192 [] 25 4 dn0 [(8, none)] := tX Tryz.call192 follows Tryz.func192 rfl rfl (by decide) (by kernel_rfl) (by kernel_rfl)

def dt6 : AC := rdc (cO Tryz.prog [] 37 Tryz.f121) _ (by conv => lhs; reduce)
theorem bh0 : FnText Tryz.prog 121 [] 37 2 dt6 [] := tX Tryz.call121 follows Tryz.func121 rfl rfl (by decide) (by kernel_rfl) (by kernel_rfl)

def du9 : AC := rdc (cO Tryz.prog [] 48 Tryz.f193) _ (by conv => lhs; reduce)
theorem bm6 : FnText Tryz.prog 193 [] 48 5 du9 [(10, none)] := tX Tryz.call193 follows Tryz.func193 rfl rfl (by decide) (by kernel_rfl) (by kernel_rfl)

def dt5 : AC := rdc (cO Tryz.prog [] 27 Tryz.f122) _ (by conv => lhs; reduce)
theorem bi5 : FnText Tryz.prog 122 [] 27 2 dt5 [] := tX Tryz.call122 follows Tryz.func122 rfl rfl (by decide) (by kernel_rfl) (by kernel_rfl)

def cz6 : AC := rdc (cO Tryz.prog [8, 22, 13, 15] 94 Tryz.f44) _ (by conv => lhs; reduce)
def cu8 : AC := rdc (lP 0 cz6) _ (by conv => lhs; reduce)
theorem cc4 : FnText Tryz.prog 44 [8, 22, 13, 15] 94 4 cz6 [(8, some (4, true)), (9, none)] := tX Tryz.call44 follows Tryz.func44 rfl rfl (by decide) (by kernel_rfl) (by kernel_rfl)

def ac9 : AC := rdc (cO Tryz.prog [3, 7] 117 Tryz.f9) _ (by conv => lhs; reduce)
theorem dq9 : FnText Tryz.prog 9 [3, 7] 117 3 ac9 [(6, none)] := tX Tryz.call9 follows Tryz.func9 rfl rfl (by decide) (by kernel_rfl) (by kernel_rfl)

def bt2 : AC := rdc (cO Tryz.prog [] 30 Tryz.f231) _ (by conv => lhs; reduce)
def bt0 : AC := rdc (lP 0 bt2) _ (by conv => lhs; reduce)
theorem bn5 : FnText Tryz.prog 231 [] 30 1 bt2 [(2, none)] := tX Tryz.call231 follows Tryz.func231 rfl rfl (by decide) (by kernel_rfl) (by kernel_rfl)

def dm9 : AC := rdc (cO Tryz.prog [0] 29 Tryz.f102) _ (by conv => lhs; reduce)
theorem cj7 : FnText Tryz.prog 102 [0] 29 0 dm9 [(0, some (9, true))] := tX Tryz.call102 follows Tryz.func102 rfl rfl (by decide) (by kernel_rfl) (by kernel_rfl)

def dw5 : AC := rdc (cO Tryz.prog [] 8 Tryz.f205) _ (by conv => lhs; reduce)
theorem ch8 : FnText Tryz.prog 205 [] 8 1 dw5 [(2, none)] := tX Tryz.call205 follows Tryz.func205 rfl rfl (by decide) (by kernel_rfl) (by kernel_rfl)

def dl8 : AC := rdc (cO Tryz.prog [] 19 Tryz.f242) _ (by conv => lhs; reduce)
theorem cr2 : FnText Tryz.prog 242 [] 19 1 dl8 [(2, none)] := tX Tryz.call242 follows Tryz.func242 rfl rfl (by decide) (by kernel_rfl) (by kernel_rfl)

def dp8 : AC := rdc (cO Tryz.prog [] 25 Tryz.f243) _ (by conv => lhs; reduce)
theorem cj0 : FnText Tryz.prog 243 [] 25 1 dp8 [(2, none)] := tX Tryz.call243 follows Tryz.func243 rfl rfl (by decide) (by kernel_rfl) (by kernel_rfl)

def cy7 : AC := rdc (cO Tryz.prog [] 148 Tryz.f204) _ (by conv => lhs; reduce)
def dw0 : AC := rdc (lP 0 cy7) _ (by conv => lhs; reduce)
theorem ch9 : FnText Tryz.prog 204 [] 148 5 cy7 [] := tX Tryz.call204 follows Tryz.func204 rfl rfl (by decide) (by kernel_rfl) (by kernel_rfl)

def by4 : AC := rdc (cO Tryz.prog [] 53 Tryz.f234) _ (by conv => lhs; reduce)
def dj6 : AC := rdc (lP 0 by4) _ (by conv => lhs; reduce)
def ds5 : AC := rdc (lP 1 by4) _ (by conv => lhs; reduce)
theorem cn9 : FnText Tryz.prog 234 [] 53 4 by4 [] := tX Tryz.call234 follows Tryz.func234 rfl rfl (by decide) (by kernel_rfl) (by kernel_rfl)

def cy1 : AC := rdc (cO Tryz.prog [] 134 Tryz.f207) _ (by conv => lhs; reduce)
def dw7 : AC := rdc (lP 0 cy1) _ (by conv => lhs; reduce)
theorem cv1 : FnText Tryz.prog 207 [] 134 4 cy1 [] := tX Tryz.call207 follows Tryz.func207 rfl rfl (by decide) (by kernel_rfl) (by kernel_rfl)

def ca5 : AC := rdc (cO Tryz.prog [] 49 Tryz.f244) _ (by conv => lhs; reduce)
def dk9 : AC := rdc (lP 0 ca5) _ (by conv => lhs; reduce)
def dw8 : AC := rdc (lP 1 ca5) _ (by conv => lhs; reduce)
theorem cu2 : FnText Tryz.prog 244 [] 49 3 ca5 [] := tX Tryz.call244 follows Tryz.func244 rfl rfl (by decide) (by kernel_rfl) (by kernel_rfl)

def dl7 : AC := rdc (cO Tryz.prog [] 17 Tryz.f250) _ (by conv => lhs; reduce)
theorem ct9 : FnText Tryz.prog 250 [] 17 2 dl7 [(4, none)] := tX Tryz.call250 follows Tryz.func250 rfl rfl (by decide) (by kernel_rfl) (by kernel_rfl)

def dp9 : AC := rdc (cO Tryz.prog [] 26 Tryz.f43) _ (by conv => lhs; reduce)
def dx3 : AC := rdc (lP 0 dp9) _ (by conv => lhs; reduce)
theorem dh1 : FnText Tryz.prog 43 [] 26 2 dp9 [(4, none)] := tX Tryz.call43 follows Tryz.func43 rfl rfl (by decide) (by kernel_rfl) (by kernel_rfl)

def dp1 : AC := rdc (cO Tryz.prog [] 26 Tryz.f32) _ (by conv => lhs; reduce)
def dx4 : AC := rdc (lP 0 dp1) _ (by conv => lhs; reduce)
theorem da7 : FnText Tryz.prog 32 [] 26 2 dp1 [(4, none)] := tX Tryz.call32 follows Tryz.func32 rfl rfl (by decide) (by kernel_rfl) (by kernel_rfl)

def dg8 : AC := rdc (cO Tryz.prog [] 35 Tryz.f110) _ (by conv => lhs; reduce)
theorem ca0 : FnText Tryz.prog 110 [] 35 1 dg8 [(2, none), (3, none), (4, none)] := tX Tryz.call110 follows Tryz.func110 rfl rfl (by decide) (by kernel_rfl) (by kernel_rfl)

end Go.Proofs.YtmonnlkagniolaaGreat
