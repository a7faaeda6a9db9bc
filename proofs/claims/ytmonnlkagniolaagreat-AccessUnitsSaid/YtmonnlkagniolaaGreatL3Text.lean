/-
 The text of each function of this seat, as the plain library tells it; each by the kernel's own reckoning from the program.
-/
import Derived.Test.YtmonnlkagniolaaGreatPbV
import Derived.Test.YtmonnlkagniolaaGreatRows
set_option linter.unusedVariables false
set_option maxRecDepth 100000
namespace Go.Proofs.YtmonnlkagniolaaGreat
open Go Go.Pb
abbrev q_ (d : Nat) (o : AOp) : AOper := ⟨some d, o, none, false⟩
abbrev t_ (n : Nat) : Operand := .tmp n
abbrev k_ (i : Int) : Operand := .const (.int .i64 i)
abbrev m_ (d n : Nat) : AOper := ⟨some d, .move (.tmp n), none, false⟩
abbrev l_ (d n : Nat) : AOper := ⟨some d, .load 1 false (.tmp n), none, false⟩
abbrev f_ (d a n : Nat) : AOper := ⟨some d, .faddr a 1 false (.tmp n), none, false⟩
abbrev n_ (d a n : Nat) : AOper := ⟨some d, .bi .len [a].toArray 3 [.tmp n], none, false⟩
abbrev r_ (l : List AOper) : AC := .region false l
abbrev z_ : Operand := .const (.slice none 0 0)
theorem follows : Tryz.prog.follows .mixedOrders = true := by kernel_rfl
def dh6 : AC := rdc (cO Tryz.prog [] 50 Tryz.f56) _ (by conv => lhs; reduce)
def ce4 : AC := rdc (lP 0 dh6) _ (by conv => lhs; reduce)
theorem dc3 : FnText Tryz.prog 56 [] 50 2 dh6 [(4, none)] := tX Tryz.call56 follows Tryz.func56 rfl rfl (by decide) (by kernel_rfl) (by kernel_rfl)

def dp3 : AC := rdc (cO Tryz.prog [] 29 Tryz.f57) _ (by conv => lhs; reduce)
def ca0 : AC := rdc (lP 0 dp3) _ (by conv => lhs; reduce)
theorem dd7 : FnText Tryz.prog 57 [] 29 1 dp3 [(2, none)] := tX Tryz.call57 follows Tryz.func57 rfl rfl (by decide) (by kernel_rfl) (by kernel_rfl)

def dm5 : AC := rdc (cO Tryz.prog [] 45 Tryz.f58) _ (by conv => lhs; reduce)
def cm7 : AC := rdc (lP 0 dm5) _ (by conv => lhs; reduce)
theorem dd2 : FnText Tryz.prog 58 [] 45 1 dm5 [(2, none)] := tX Tryz.call58 follows Tryz.func58 rfl rfl (by decide) (by kernel_rfl) (by kernel_rfl)

def dq6 : AC := rdc (cO Tryz.prog [] 19 Tryz.f59) _ (by conv => lhs; reduce)
theorem db3 : FnText Tryz.prog 59 [] 19 1 dq6 [(2, none)] := tX Tryz.call59 follows Tryz.func59 rfl rfl (by decide) (by kernel_rfl) (by kernel_rfl)

def bw1 : AC := rdc (cO Tryz.prog [] 145 Tryz.f13) _ (by conv => lhs; reduce)
def cp0 : AC := rdc (lP 0 bw1) _ (by conv => lhs; reduce)
def ck7 : AC := rdc (lP 1 bw1) _ (by conv => lhs; reduce)
def cl0 : AC := rdc (lP 2 bw1) _ (by conv => lhs; reduce)
def bz9 : AC := rdc (lP 3 bw1) _ (by conv => lhs; reduce)
theorem cv0 : FnText Tryz.prog 13 [] 145 1 bw1 [(2, none)] := tX Tryz.call13 follows Tryz.func13 rfl rfl (by decide) (by kernel_rfl) (by kernel_rfl)

def dq1 : AC := rdc (cO Tryz.prog [1, 2] 63 Tryz.f14) _ (by conv => lhs; reduce)
theorem dc8 : FnText Tryz.prog 14 [1, 2] 63 0 dq1 [(0, none)] := tX Tryz.call14 follows Tryz.func14 rfl rfl (by decide) (by kernel_rfl) (by kernel_rfl)

def de9 : AC := rdc (cO Tryz.prog [] 6 Tryz.f206) _ (by conv => lhs; reduce)
theorem bb0 : FnText Tryz.prog 206 [] 6 1 de9 [(2, none)] := tX Tryz.call206 follows Tryz.func206 rfl rfl (by decide) (by kernel_rfl) (by kernel_rfl)

def dm3 : AC := rdc (cO Tryz.prog [] 20 Tryz.f141) _ (by conv => lhs; reduce)
theorem bd8 : FnText Tryz.prog 141 [] 20 2 dm3 [(4, none)] := tX Tryz.call141 follows Tryz.func141 rfl rfl (by decide) (by kernel_rfl) (by kernel_rfl)

def cs3 : AC := rdc (cO Tryz.prog [] 18 Tryz.f140) _ (by conv => lhs; reduce)
def bv5 : AC := rdc (lP 0 cs3) _ (by conv => lhs; reduce)
theorem ba8 : FnText Tryz.prog 140 [] 18 1 cs3 [(2, none)] := tX Tryz.call140 follows Tryz.func140 rfl rfl (by decide) (by kernel_rfl) (by kernel_rfl)

def dp6 : AC := rdc (cO Tryz.prog [] 17 Tryz.f139) _ (by conv => lhs; reduce)
theorem ao1 : FnText Tryz.prog 139 [] 17 2 dp6 [(4, none)] := tX Tryz.call139 follows Tryz.func139 rfl rfl (by decide) (by kernel_rfl) (by kernel_rfl)

def dn3 : AC := rdc (cO Tryz.prog [] 17 Tryz.f179) _ (by conv => lhs; reduce)
theorem al9 : FnText Tryz.prog 179 [] 17 2 dn3 [(4, none)] := tX Tryz.call179 follows Tryz.func179 rfl rfl (by decide) (by kernel_rfl) (by kernel_rfl)

def dl6 : AC := rdc (cO Tryz.prog [] 14 Tryz.f138) _ (by conv => lhs; reduce)
theorem am9 : FnText Tryz.prog 138 [] 14 2 dl6 [] := tX Tryz.call138 follows Tryz.func138 rfl rfl (by decide) (by kernel_rfl) (by kernel_rfl)

def yb : AC :=
 .seq (.seq (r_ [m_ 29 5,
 m_ 30 4,
 n_ 31 75 30,
 q_ 32 (.bin .lss 3 (t_ 29) (t_ 31))])
 (.cond (t_ 32)
 (.skip)
 (.exit 2)))
 (.seq (.block 3 (.seq (.region true [m_ 35 4,
 m_ 36 5,
 q_ 37 (.iaddr 2 (t_ 35) (t_ 36)),
 q_ 38 (.load 2 true (t_ 37)),
 m_ 39 4,
 m_ 40 5,
 q_ 41 (.bin .sub 3 (t_ 40) (k_ 1)),
 q_ 42 (.iaddr 2 (t_ 39) (t_ 41)),
 q_ 43 (.load 2 true (t_ 42)),
 q_ 44 (.bin .neq 87 (t_ 38) (t_ 43))])
 (.cond (t_ 44)
 (.seq (r_ [m_ 45 0,
 m_ 46 3,
 m_ 47 4,
 m_ 48 5,
 q_ 49 (.iaddr 2 (t_ 47) (t_ 48)),
 q_ 50 (.load 2 true (t_ 49)),
 q_ 51 (.iaddr 2 (t_ 45) (t_ 46)),
 ⟨none, .store 2 (t_ 51) (t_ 50), none, false⟩])
 (r_ [m_ 52 3,
 q_ 53 (.bin .add 3 (t_ 52) (k_ 1)),
 m_ 3 53]))
 (.skip))))
 (r_ [m_ 33 5,
 q_ 34 (.bin .add 3 (t_ 33) (k_ 1)),
 m_ 5 34]))
def yr : AC :=
 .seq (.seq (r_ [m_ 10 3,
 m_ 11 0,
 n_ 12 75 11,
 q_ 13 (.bin .lss 3 (t_ 10) (t_ 12))])
 (.cond (t_ 13)
 (.skip)
 (.exit 0)))
 (.seq (.block 1 (.seq (.region true [m_ 16 0,
 m_ 17 3,
 q_ 18 (.iaddr 2 (t_ 16) (t_ 17)),
 q_ 19 (.load 2 true (t_ 18)),
 m_ 20 0,
 m_ 21 3,
 q_ 22 (.bin .sub 3 (t_ 21) (k_ 1)),
 q_ 23 (.iaddr 2 (t_ 20) (t_ 22)),
 q_ 24 (.load 2 true (t_ 23)),
 q_ 25 (.bin .eql 87 (t_ 19) (t_ 24))])
 (.cond (t_ 25)
 (.seq (r_ [m_ 26 0,
 m_ 27 3,
 (q_ 28 (.slice 75 2 (t_ 26) (some (t_ 27)) none none)),
 m_ 4 28])
 (.seq (.seq (r_ [q_ 5 (.move (k_ 1))])
 (.block 2 (.loop yb)))
 (.seq (r_ [m_ 54 0,
 m_ 55 3,
 (q_ 56 (.slice 75 2 (t_ 54) (some (t_ 55)) none none)),
 ⟨none, .clr 2 (.agg [(.int .i64 0), (.int .i64 0)].toArray) (t_ 56), none, false⟩])
 (.seq (r_ [m_ 57 0,
 m_ 58 3,
 (q_ 59 (.slice 75 2 (t_ 57) none (some (t_ 58)) none)),
 m_ 2 59])
 (.ret)))))
 (.skip))))
 (r_ [m_ 14 3,
 q_ 15 (.bin .add 3 (t_ 14) (k_ 1)),
 m_ 3 15]))
/-- slices.Compact[[]patchbay/api.FieldRef,patchbay/api.FieldRef] -/
def bp6 : AC :=
 .seq (r_ [q_ 2 (.move z_)])
 (.seq (.seq (r_ [m_ 6 0,
 n_ 7 75 6,
 q_ 8 (.bin .lss 3 (t_ 7) (k_ 2))])
 (.cond (t_ 8)
 (.seq (r_ [m_ 9 0,
 m_ 2 9])
 (.ret))
 (.skip)))
 (.seq (.seq (r_ [q_ 3 (.move (k_ 1))])
 (.block 0 (.loop yr)))
 (.seq (r_ [m_ 60 0,
 m_ 2 60])
 (.ret))))
theorem bd9 : FnText Tryz.prog 142 [] 61 1 bp6 [(2, none)] :=
 ⟨Tryz.call142, follows, Tryz.f142, _, Tryz.func142, rfl, rfl, by decide, by kernel_rfl, by kernel_rfl⟩

def dl1 : AC := rdc (cO Tryz.prog [5] 28 Tryz.f66) _ (by conv => lhs; reduce)
def cj2 : AC := rdc (lP 0 dl1) _ (by conv => lhs; reduce)
theorem br1 : FnText Tryz.prog 66 [5] 28 1 dl1 [(2, none)] := tX Tryz.call66 follows Tryz.func66 rfl rfl (by decide) (by kernel_rfl) (by kernel_rfl)

def dk6 : AC := rdc (cO Tryz.prog [] 11 Tryz.f143) _ (by conv => lhs; reduce)
theorem bd1 : FnText Tryz.prog 143 [] 11 1 dk6 [] := tX Tryz.call143 follows Tryz.func143 rfl rfl (by decide) (by kernel_rfl) (by kernel_rfl)

def xv : AC :=
 .seq (.seq (r_ [m_ 29 5,
 m_ 30 4,
 n_ 31 29 30,
 q_ 32 (.bin .lss 3 (t_ 29) (t_ 31))])
 (.cond (t_ 32)
 (.skip)
 (.exit 2)))
 (.seq (.block 3 (.seq (.region true [m_ 35 4,
 m_ 36 5,
 q_ 37 (.iaddr 1 (t_ 35) (t_ 36)),
 l_ 38 37,
 m_ 39 4,
 m_ 40 5,
 q_ 41 (.bin .sub 3 (t_ 40) (k_ 1)),
 q_ 42 (.iaddr 1 (t_ 39) (t_ 41)),
 l_ 43 42,
 q_ 44 (.bin .neq 3 (t_ 38) (t_ 43))])
 (.cond (t_ 44)
 (.seq (r_ [m_ 45 0,
 m_ 46 3,
 m_ 47 4,
 m_ 48 5,
 q_ 49 (.iaddr 1 (t_ 47) (t_ 48)),
 l_ 50 49,
 q_ 51 (.iaddr 1 (t_ 45) (t_ 46)),
 ⟨none, .store 1 (t_ 51) (t_ 50), none, false⟩])
 (r_ [m_ 52 3,
 q_ 53 (.bin .add 3 (t_ 52) (k_ 1)),
 m_ 3 53]))
 (.skip))))
 (r_ [m_ 33 5,
 q_ 34 (.bin .add 3 (t_ 33) (k_ 1)),
 m_ 5 34]))
def yh : AC :=
 .seq (.seq (r_ [m_ 10 3,
 m_ 11 0,
 n_ 12 29 11,
 q_ 13 (.bin .lss 3 (t_ 10) (t_ 12))])
 (.cond (t_ 13)
 (.skip)
 (.exit 0)))
 (.seq (.block 1 (.seq (.region true [m_ 16 0,
 m_ 17 3,
 q_ 18 (.iaddr 1 (t_ 16) (t_ 17)),
 l_ 19 18,
 m_ 20 0,
 m_ 21 3,
 q_ 22 (.bin .sub 3 (t_ 21) (k_ 1)),
 q_ 23 (.iaddr 1 (t_ 20) (t_ 22)),
 l_ 24 23,
 q_ 25 (.bin .eql 3 (t_ 19) (t_ 24))])
 (.cond (t_ 25)
 (.seq (r_ [m_ 26 0,
 m_ 27 3,
 (q_ 28 (.slice 29 1 (t_ 26) (some (t_ 27)) none none)),
 m_ 4 28])
 (.seq (.seq (r_ [q_ 5 (.move (k_ 1))])
 (.block 2 (.loop xv)))
 (.seq (r_ [m_ 54 0,
 m_ 55 3,
 (q_ 56 (.slice 29 1 (t_ 54) (some (t_ 55)) none none)),
 ⟨none, .clr 1 (.int .i64 0) (t_ 56), none, false⟩])
 (.seq (r_ [m_ 57 0,
 m_ 58 3,
 (q_ 59 (.slice 29 1 (t_ 57) none (some (t_ 58)) none)),
 m_ 2 59])
 (.ret)))))
 (.skip))))
 (r_ [m_ 14 3,
 q_ 15 (.bin .add 3 (t_ 14) (k_ 1)),
 m_ 3 15]))
/-- slices.Compact[[]int,int] -/
def bp0 : AC :=
 .seq (r_ [q_ 2 (.move z_)])
 (.seq (.seq (r_ [m_ 6 0,
 n_ 7 29 6,
 q_ 8 (.bin .lss 3 (t_ 7) (k_ 2))])
 (.cond (t_ 8)
 (.seq (r_ [m_ 9 0,
 m_ 2 9])
 (.ret))
 (.skip)))
 (.seq (.seq (r_ [q_ 3 (.move (k_ 1))])
 (.block 0 (.loop yh)))
 (.seq (r_ [m_ 60 0,
 m_ 2 60])
 (.ret))))
theorem be3 : FnText Tryz.prog 144 [] 61 1 bp0 [(2, none)] :=
 ⟨Tryz.call144, follows, Tryz.f144, _, Tryz.func144, rfl, rfl, by decide, by kernel_rfl, by kernel_rfl⟩

def do5 : AC := rdc (cO Tryz.prog [5] 25 Tryz.f67) _ (by conv => lhs; reduce)
def cd4 : AC := rdc (lP 0 do5) _ (by conv => lhs; reduce)
theorem by0 : FnText Tryz.prog 67 [5] 25 1 do5 [(2, none)] := tX Tryz.call67 follows Tryz.func67 rfl rfl (by decide) (by kernel_rfl) (by kernel_rfl)

def dh9 : AC := rdc (cO Tryz.prog [] 15 Tryz.f137) _ (by conv => lhs; reduce)
theorem bc5 : FnText Tryz.prog 137 [] 15 2 dh9 [] := tX Tryz.call137 follows Tryz.func137 rfl rfl (by decide) (by kernel_rfl) (by kernel_rfl)

def ct2 : AC := rdc (cO Tryz.prog [2, 3, 5] 32 Tryz.f163) _ (by conv => lhs; reduce)
def bm2 : AC := rdc (lP 0 ct2) _ (by conv => lhs; reduce)
theorem bb8 : FnText Tryz.prog 163 [2, 3, 5] 32 1 ct2 [(2, some (4, true))] := tX Tryz.call163 follows Tryz.func163 rfl rfl (by decide) (by kernel_rfl) (by kernel_rfl)

def cs4 : AC := rdc (cO Tryz.prog [] 22 Tryz.f135) _ (by conv => lhs; reduce)
def bv7 : AC := rdc (lP 0 cs4) _ (by conv => lhs; reduce)
theorem bh3 : FnText Tryz.prog 135 [] 22 2 cs4 [(4, none)] := tX Tryz.call135 follows Tryz.func135 rfl rfl (by decide) (by kernel_rfl) (by kernel_rfl)

def dq2 : AC := rdc (cO Tryz.prog [] 22 Tryz.f92) _ (by conv => lhs; reduce)
theorem by8 : FnText Tryz.prog 92 [] 22 3 dq2 [(6, none)] := tX Tryz.call92 follows Tryz.func92 rfl rfl (by decide) (by kernel_rfl) (by kernel_rfl)

def dj9 : AC := rdc (cO Tryz.prog [7] 63 Tryz.f62) _ (by conv => lhs; reduce)
def cb7 : AC := rdc (lP 0 dj9) _ (by conv => lhs; reduce)
theorem bz1 : FnText Tryz.prog 62 [7] 63 2 dj9 [(4, none)] := tX Tryz.call62 follows Tryz.func62 rfl rfl (by decide) (by kernel_rfl) (by kernel_rfl)

def dq9 : AC := rdc (cO Tryz.prog [] 8 Tryz.f63) _ (by conv => lhs; reduce)
theorem bs9 : FnText Tryz.prog 63 [] 8 2 dq9 [(4, none)] := tX Tryz.call63 follows Tryz.func63 rfl rfl (by decide) (by kernel_rfl) (by kernel_rfl)

def dq3 : AC := rdc (cO Tryz.prog [] 8 Tryz.f25) _ (by conv => lhs; reduce)
theorem bw7 : FnText Tryz.prog 25 [] 8 2 dq3 [(4, none)] := tX Tryz.call25 follows Tryz.func25 rfl rfl (by decide) (by kernel_rfl) (by kernel_rfl)

def cd0 : AC := rdc (cO Tryz.prog [10] 61 Tryz.f65) _ (by conv => lhs; reduce)
def ca3 : AC := rdc (lP 0 cd0) _ (by conv => lhs; reduce)
def cg8 : AC := rdc (lP 1 cd0) _ (by conv => lhs; reduce)
def ch8 : AC := rdc (lP 2 cd0) _ (by conv => lhs; reduce)
theorem bv1 : FnText Tryz.prog 65 [10] 61 4 cd0 [] := tX Tryz.call65 follows Tryz.func65 rfl rfl (by decide) (by kernel_rfl) (by kernel_rfl)

def dq0 : AC := rdc (cO Tryz.prog [] 13 Tryz.f68) _ (by conv => lhs; reduce)
theorem bu7 : FnText Tryz.prog 68 [] 13 1 dq0 [(2, none)] := tX Tryz.call68 follows Tryz.func68 rfl rfl (by decide) (by kernel_rfl) (by kernel_rfl)

def dg5 : AC := rdc (cO Tryz.prog [4] 24 Tryz.f69) _ (by conv => lhs; reduce)
theorem bz5 : FnText Tryz.prog 69 [4] 24 2 dg5 [(4, some (6, true)), (5, none)] := tX Tryz.call69 follows Tryz.func69 rfl rfl (by decide) (by kernel_rfl) (by kernel_rfl)

def di7 : AC := rdc (cO Tryz.prog [] 17 Tryz.f221) _ (by conv => lhs; reduce)
theorem bc1 : FnText Tryz.prog 221 [] 17 1 di7 [(2, none)] := tX Tryz.call221 follows Tryz.func221 rfl rfl (by decide) (by kernel_rfl) (by kernel_rfl)

def cq0 : AC := rdc (cO Tryz.prog [] 20 Tryz.f222) _ (by conv => lhs; reduce)
def bn3 : AC := rdc (lP 0 cq0) _ (by conv => lhs; reduce)
theorem az2 : FnText Tryz.prog 222 [] 20 2 cq0 [(4, none)] := tX Tryz.call222 follows Tryz.func222 rfl rfl (by decide) (by kernel_rfl) (by kernel_rfl)

def dh0 : AC := rdc (cO Tryz.prog [] 9 Tryz.f224) _ (by conv => lhs; reduce)
theorem az0 : FnText Tryz.prog 224 [] 9 1 dh0 [(2, none)] := tX Tryz.call224 follows Tryz.func224 rfl rfl (by decide) (by kernel_rfl) (by kernel_rfl)

def df3 : AC := rdc (cO Tryz.prog [] 13 Tryz.f223) _ (by conv => lhs; reduce)
theorem az7 : FnText Tryz.prog 223 [] 13 1 df3 [(2, none)] := tX Tryz.call223 follows Tryz.func223 rfl rfl (by decide) (by kernel_rfl) (by kernel_rfl)

def do8 : AC := rdc (cO Tryz.prog [] 22 Tryz.f169) _ (by conv => lhs; reduce)
theorem az5 : FnText Tryz.prog 169 [] 22 1 do8 [(2, none)] := tX Tryz.call169 follows Tryz.func169 rfl rfl (by decide) (by kernel_rfl) (by kernel_rfl)

def dn9 : AC := rdc (cO Tryz.prog [] 9 Tryz.f171) _ (by conv => lhs; reduce)
theorem bc6 : FnText Tryz.prog 171 [] 9 2 dn9 [(3, none)] := tX Tryz.call171 follows Tryz.func171 rfl rfl (by decide) (by kernel_rfl) (by kernel_rfl)

def cr0 : AC := rdc (cO Tryz.prog [] 19 Tryz.f225) _ (by conv => lhs; reduce)
def by9 : AC := rdc (lP 0 cr0) _ (by conv => lhs; reduce)
theorem ba0 : FnText Tryz.prog 225 [] 19 2 cr0 [(4, none)] := tX Tryz.call225 follows Tryz.func225 rfl rfl (by decide) (by kernel_rfl) (by kernel_rfl)

def dp1 : AC := rdc (cO Tryz.prog [] 9 Tryz.f170) _ (by conv => lhs; reduce)
theorem bd6 : FnText Tryz.prog 170 [] 9 2 dp1 [(4, none)] := tX Tryz.call170 follows Tryz.func170 rfl rfl (by decide) (by kernel_rfl) (by kernel_rfl)

def cs9 : AC := rdc (cO Tryz.prog [4] 51 Tryz.f103) _ (by conv => lhs; reduce)
def bp8 : AC := rdc (lP 0 cs9) _ (by conv => lhs; reduce)
theorem bd2 : FnText Tryz.prog 103 [4] 51 1 cs9 [(2, none)] := tX Tryz.call103 follows Tryz.func103 rfl rfl (by decide) (by kernel_rfl) (by kernel_rfl)

def di8 : AC := rdc (cO Tryz.prog [] 46 Tryz.f172) _ (by conv => lhs; reduce)
theorem bb7 : FnText Tryz.prog 172 [] 46 2 di8 [(4, none), (5, none)] := tX Tryz.call172 follows Tryz.func172 rfl rfl (by decide) (by kernel_rfl) (by kernel_rfl)

def df6 : AC := rdc (cO Tryz.prog [] 25 Tryz.f267) _ (by conv => lhs; reduce)
theorem bf0 : FnText Tryz.prog 267 [] 25 1 df6 [(2, none)] := tX Tryz.call267 follows Tryz.func267 rfl rfl (by decide) (by kernel_rfl) (by kernel_rfl)

def dp5 : AC := rdc (cO Tryz.prog [] 11 Tryz.f287) _ (by conv => lhs; reduce)
theorem ba9 : FnText Tryz.prog 287 [] 11 1 dp5 [(2, none), (3, none)] := tX Tryz.call287 follows Tryz.func287 rfl rfl (by decide) (by kernel_rfl) (by kernel_rfl)

def cs5 : AC := rdc (cO Tryz.prog [] 18 Tryz.f181) _ (by conv => lhs; reduce)
def bt4 : AC := rdc (lP 0 cs5) _ (by conv => lhs; reduce)
theorem bc9 : FnText Tryz.prog 181 [] 18 1 cs5 [(2, none)] := tX Tryz.call181 follows Tryz.func181 rfl rfl (by decide) (by kernel_rfl) (by kernel_rfl)

def dj6 : AC := rdc (cO Tryz.prog [] 10 Tryz.f182) _ (by conv => lhs; reduce)
theorem bc8 : FnText Tryz.prog 182 [] 10 1 dj6 [(2, none)] := tX Tryz.call182 follows Tryz.func182 rfl rfl (by decide) (by kernel_rfl) (by kernel_rfl)

def cs0 : AC := rdc (cO Tryz.prog [6] 45 Tryz.f288) _ (by conv => lhs; reduce)
theorem bd0 : FnText Tryz.prog 288 [6] 45 3 cs0 [(6, some (2, true)), (7, none)] := tX Tryz.call288 follows Tryz.func288 rfl rfl (by decide) (by kernel_rfl) (by kernel_rfl)

def dl7 : AC := rdc (cO Tryz.prog [8] 90 Tryz.f268) _ (by conv => lhs; reduce)
theorem be2 : FnText Tryz.prog 268 [8] 90 2 dl7 [(4, none), (5, none)] := tX Tryz.call268 follows Tryz.func268 rfl rfl (by decide) (by kernel_rfl) (by kernel_rfl)

def dh5 : AC := rdc (cO Tryz.prog [] 91 Tryz.f269) _ (by conv => lhs; reduce)
theorem bc7 : FnText Tryz.prog 269 [] 91 2 dh5 [(4, none), (5, none)] := tX Tryz.call269 follows Tryz.func269 rfl rfl (by decide) (by kernel_rfl) (by kernel_rfl)

def cs8 : AC := rdc (cO Tryz.prog [10] 73 Tryz.f226) _ (by conv => lhs; reduce)
def by2 : AC := rdc (lP 0 cs8) _ (by conv => lhs; reduce)
theorem bc3 : FnText Tryz.prog 226 [10] 73 3 cs8 [(6, none), (7, none), (8, none)] := tX Tryz.call226 follows Tryz.func226 rfl rfl (by decide) (by kernel_rfl) (by kernel_rfl)

def de8 : AC := rdc (cO Tryz.prog [] 27 Tryz.f174) _ (by conv => lhs; reduce)
theorem bc4 : FnText Tryz.prog 174 [] 27 2 de8 [(4, none), (5, none)] := tX Tryz.call174 follows Tryz.func174 rfl rfl (by decide) (by kernel_rfl) (by kernel_rfl)

def do6 : AC := rdc (cO Tryz.prog [] 24 Tryz.f173) _ (by conv => lhs; reduce)
theorem bg5 : FnText Tryz.prog 173 [] 24 3 do6 [(6, none)] := tX Tryz.call173 follows Tryz.func173 rfl rfl (by decide) (by kernel_rfl) (by kernel_rfl)

def do7 : AC := rdc (cO Tryz.prog [5] 105 Tryz.f104) _ (by conv => lhs; reduce)
theorem be7 : FnText Tryz.prog 104 [5] 105 2 do7 [(4, none)] := tX Tryz.call104 follows Tryz.func104 rfl rfl (by decide) (by kernel_rfl) (by kernel_rfl)

def dp2 : AC := rdc (cO Tryz.prog [6, 7, 9] 50 Tryz.f35) _ (by conv => lhs; reduce)
def ce0 : AC := rdc (lP 0 dp2) _ (by conv => lhs; reduce)
theorem bz4 : FnText Tryz.prog 35 [6, 7, 9] 50 2 dp2 [(4, none), (5, none)] := tX Tryz.call35 follows Tryz.func35 rfl rfl (by decide) (by kernel_rfl) (by kernel_rfl)

def dh7 : AC := rdc (cO Tryz.prog [] 21 Tryz.f108) _ (by conv => lhs; reduce)
theorem bf8 : FnText Tryz.prog 108 [] 21 2 dh7 [(4, none)] := tX Tryz.call108 follows Tryz.func108 rfl rfl (by decide) (by kernel_rfl) (by kernel_rfl)

def di6 : AC := rdc (cO Tryz.prog [] 24 Tryz.f109) _ (by conv => lhs; reduce)
theorem bf5 : FnText Tryz.prog 109 [] 24 2 di6 [] := tX Tryz.call109 follows Tryz.func109 rfl rfl (by decide) (by kernel_rfl) (by kernel_rfl)

def df5 : AC := rdc (cO Tryz.prog [1000000] 35 Tryz.f110) _ (by conv => lhs; reduce)
theorem co1 : FnText Tryz.prog 110 [1000000] 35 1 df5 [(2, none), (3, none), (4, none)] := tX Tryz.call110 follows Tryz.func110 rfl rfl (by decide) (by kernel_rfl) (by kernel_rfl)

def cx3 : AC := rdc (cO Tryz.prog [7, 9] 81 Tryz.f37) _ (by conv => lhs; reduce)
def ck2 : AC := rdc (lP 0 cx3) _ (by conv => lhs; reduce)
theorem bl3 : FnText Tryz.prog 37 [7, 9] 81 2 cx3 [(4, none), (5, none), (6, none)] := tX Tryz.call37 follows Tryz.func37 rfl rfl (by decide) (by kernel_rfl) (by kernel_rfl)

def cv5 : AC := rdc (cO Tryz.prog [14, 6, 9] 67 Tryz.f16) _ (by conv => lhs; reduce)
def cc0 : AC := rdc (lP 0 cv5) _ (by conv => lhs; reduce)
def co5 : AC := rdc (lP 1 cv5) _ (by conv => lhs; reduce)
theorem bw8 : FnText Tryz.prog 16 [14, 6, 9] 67 2 cv5 [(4, none)] := tX Tryz.call16 follows Tryz.func16 rfl rfl (by decide) (by kernel_rfl) (by kernel_rfl)

def dp0 : AC := rdc (cO Tryz.prog [] 24 Tryz.f180) _ (by conv => lhs; reduce)
theorem ce7 : FnText Tryz.prog 180 [] 24 2 dp0 [(4, none)] := tX Tryz.call180 follows Tryz.func180 rfl rfl (by decide) (by kernel_rfl) (by kernel_rfl)

def cr5 : AC := rdc (cO Tryz.prog [] 49 Tryz.f113) _ (by conv => lhs; reduce)
def bo6 : AC := rdc (lP 0 cr5) _ (by conv => lhs; reduce)
theorem ci0 : FnText Tryz.prog 113 [] 49 2 cr5 [(4, none)] := tX Tryz.call113 follows Tryz.func113 rfl rfl (by decide) (by kernel_rfl) (by kernel_rfl)

def dl3 : AC := rdc (cO Tryz.prog [] 31 Tryz.f71) _ (by conv => lhs; reduce)
def cd3 : AC := rdc (lP 0 dl3) _ (by conv => lhs; reduce)
theorem cz9 : FnText Tryz.prog 71 [] 31 1 dl3 [(2, none)] := tX Tryz.call71 follows Tryz.func71 rfl rfl (by decide) (by kernel_rfl) (by kernel_rfl)

def cr2 : AC := rdc (cO Tryz.prog [] 48 Tryz.f112) _ (by conv => lhs; reduce)
def bt1 : AC := rdc (lP 0 cr2) _ (by conv => lhs; reduce)
theorem ci6 : FnText Tryz.prog 112 [] 48 2 cr2 [(4, none)] := tX Tryz.call112 follows Tryz.func112 rfl rfl (by decide) (by kernel_rfl) (by kernel_rfl)

def do2 : AC := rdc (cO Tryz.prog [] 25 Tryz.f72) _ (by conv => lhs; reduce)
def cp6 : AC := rdc (lP 0 do2) _ (by conv => lhs; reduce)
theorem cy9 : FnText Tryz.prog 72 [] 25 1 do2 [(2, none)] := tX Tryz.call72 follows Tryz.func72 rfl rfl (by decide) (by kernel_rfl) (by kernel_rfl)

def cr8 : AC := rdc (cO Tryz.prog [] 22 Tryz.f147) _ (by conv => lhs; reduce)
def bm0 : AC := rdc (lP 0 cr8) _ (by conv => lhs; reduce)
theorem ca4 : FnText Tryz.prog 147 [] 22 2 cr8 [(4, none)] := tX Tryz.call147 follows Tryz.func147 rfl rfl (by decide) (by kernel_rfl) (by kernel_rfl)

def dr0 : AC := rdc (cO Tryz.prog [] 69 Tryz.f74) _ (by conv => lhs; reduce)
theorem dc5 : FnText Tryz.prog 74 [] 69 2 dr0 [(4, none)] := tX Tryz.call74 follows Tryz.func74 rfl rfl (by decide) (by kernel_rfl) (by kernel_rfl)

def dk2 : AC := rdc (cO Tryz.prog [] 52 Tryz.f73) _ (by conv => lhs; reduce)
def cc4 : AC := rdc (lP 0 dk2) _ (by conv => lhs; reduce)
theorem cw7 : FnText Tryz.prog 73 [] 52 2 dk2 [(4, none)] := tX Tryz.call73 follows Tryz.func73 rfl rfl (by decide) (by kernel_rfl) (by kernel_rfl)

def dj4 : AC := rdc (cO Tryz.prog [] 21 Tryz.f145) _ (by conv => lhs; reduce)
theorem cd5 : FnText Tryz.prog 145 [] 21 2 dj4 [(4, none)] := tX Tryz.call145 follows Tryz.func145 rfl rfl (by decide) (by kernel_rfl) (by kernel_rfl)

def dk9 : AC := rdc (cO Tryz.prog [] 29 Tryz.f146) _ (by conv => lhs; reduce)
theorem ch5 : FnText Tryz.prog 146 [] 29 2 dk9 [(4, none)] := tX Tryz.call146 follows Tryz.func146 rfl rfl (by decide) (by kernel_rfl) (by kernel_rfl)

def cg3 : AC := rdc (cO Tryz.prog [] 57 Tryz.f70) _ (by conv => lhs; reduce)
def cp5 : AC := rdc (lP 0 cg3) _ (by conv => lhs; reduce)
def cg7 : AC := rdc (lP 1 cg3) _ (by conv => lhs; reduce)
def cd7 : AC := rdc (lP 2 cg3) _ (by conv => lhs; reduce)
theorem ct8 : FnText Tryz.prog 70 [] 57 5 cg3 [(10, none)] := tX Tryz.call70 follows Tryz.func70 rfl rfl (by decide) (by kernel_rfl) (by kernel_rfl)

def do9 : AC := rdc (cO Tryz.prog [] 17 Tryz.f175) _ (by conv => lhs; reduce)
theorem cl7 : FnText Tryz.prog 175 [] 17 1 do9 [(2, none)] := tX Tryz.call175 follows Tryz.func175 rfl rfl (by decide) (by kernel_rfl) (by kernel_rfl)

def dn0 : AC := rdc (cO Tryz.prog [] 9 Tryz.f176) _ (by conv => lhs; reduce)
theorem ck6 : FnText Tryz.prog 176 [] 9 1 dn0 [(2, none)] := tX Tryz.call176 follows Tryz.func176 rfl rfl (by decide) (by kernel_rfl) (by kernel_rfl)

def cq3 : AC := rdc (cO Tryz.prog [] 41 Tryz.f105) _ (by conv => lhs; reduce)
def bn9 : AC := rdc (lP 0 cq3) _ (by conv => lhs; reduce)
theorem co4 : FnText Tryz.prog 105 [] 41 1 cq3 [(2, none)] := tX Tryz.call105 follows Tryz.func105 rfl rfl (by decide) (by kernel_rfl) (by kernel_rfl)

def bt5 : AC := rdc (cO Tryz.prog [] 50 Tryz.f106) _ (by conv => lhs; reduce)
def bm1 : AC := rdc (lP 0 bt5) _ (by conv => lhs; reduce)
def bt2 : AC := rdc (lP 1 bt5) _ (by conv => lhs; reduce)
theorem ce9 : FnText Tryz.prog 106 [] 50 1 bt5 [(2, none)] := tX Tryz.call106 follows Tryz.func106 rfl rfl (by decide) (by kernel_rfl) (by kernel_rfl)

def dq7 : AC := rdc (cO Tryz.prog [4] 13 Tryz.f85) _ (by conv => lhs; reduce)
theorem cz2 : FnText Tryz.prog 85 [4] 13 2 dq7 [(4, some (10, true))] := tX Tryz.call85 follows Tryz.func85 rfl rfl (by decide) (by kernel_rfl) (by kernel_rfl)

def dg9 : AC := rdc (cO Tryz.prog [] 46 Tryz.f177) _ (by conv => lhs; reduce)
theorem cg2 : FnText Tryz.prog 177 [] 46 2 dg9 [(4, none), (5, none)] := tX Tryz.call177 follows Tryz.func177 rfl rfl (by decide) (by kernel_rfl) (by kernel_rfl)

def dm4 : AC := rdc (cO Tryz.prog [] 27 Tryz.f219) _ (by conv => lhs; reduce)
theorem cb3 : FnText Tryz.prog 219 [] 27 1 dm4 [(2, none)] := tX Tryz.call219 follows Tryz.func219 rfl rfl (by decide) (by kernel_rfl) (by kernel_rfl)

def dj1 : AC := rdc (cO Tryz.prog [] 11 Tryz.f285) _ (by conv => lhs; reduce)
theorem cj3 : FnText Tryz.prog 285 [] 11 1 dj1 [(2, none), (3, none)] := tX Tryz.call285 follows Tryz.func285 rfl rfl (by decide) (by kernel_rfl) (by kernel_rfl)

def dh4 : AC := rdc (cO Tryz.prog [] 9 Tryz.f183) _ (by conv => lhs; reduce)
theorem ca7 : FnText Tryz.prog 183 [] 9 1 dh4 [(2, none)] := tX Tryz.call183 follows Tryz.func183 rfl rfl (by decide) (by kernel_rfl) (by kernel_rfl)

def cr1 : AC := rdc (cO Tryz.prog [] 13 Tryz.f184) _ (by conv => lhs; reduce)
def bq0 : AC := rdc (lP 0 cr1) _ (by conv => lhs; reduce)
theorem cp1 : FnText Tryz.prog 184 [] 13 1 cr1 [(2, none)] := tX Tryz.call184 follows Tryz.func184 rfl rfl (by decide) (by kernel_rfl) (by kernel_rfl)

def dj2 : AC := rdc (cO Tryz.prog [] 10 Tryz.f286) _ (by conv => lhs; reduce)
theorem cf5 : FnText Tryz.prog 286 [] 10 1 dj2 [(2, none)] := tX Tryz.call286 follows Tryz.func286 rfl rfl (by decide) (by kernel_rfl) (by kernel_rfl)

def do0 : AC := rdc (cO Tryz.prog [] 91 Tryz.f258) _ (by conv => lhs; reduce)
theorem cl4 : FnText Tryz.prog 258 [] 91 2 do0 [(4, none), (5, none)] := tX Tryz.call258 follows Tryz.func258 rfl rfl (by decide) (by kernel_rfl) (by kernel_rfl)

def di1 : AC := rdc (cO Tryz.prog [] 105 Tryz.f259) _ (by conv => lhs; reduce)
theorem cn5 : FnText Tryz.prog 259 [] 105 2 di1 [(4, none), (5, none)] := tX Tryz.call259 follows Tryz.func259 rfl rfl (by decide) (by kernel_rfl) (by kernel_rfl)

def cq7 : AC := rdc (cO Tryz.prog [] 85 Tryz.f216) _ (by conv => lhs; reduce)
def bo4 : AC := rdc (lP 0 cq7) _ (by conv => lhs; reduce)
theorem cl5 : FnText Tryz.prog 216 [] 85 3 cq7 [(6, none), (7, none), (8, none)] := tX Tryz.call216 follows Tryz.func216 rfl rfl (by decide) (by kernel_rfl) (by kernel_rfl)

def df2 : AC := rdc (cO Tryz.prog [] 29 Tryz.f156) _ (by conv => lhs; reduce)
theorem ci7 : FnText Tryz.prog 156 [] 29 2 df2 [(4, none), (5, none)] := tX Tryz.call156 follows Tryz.func156 rfl rfl (by decide) (by kernel_rfl) (by kernel_rfl)

def dk7 : AC := rdc (cO Tryz.prog [] 23 Tryz.f178) _ (by conv => lhs; reduce)
theorem bz8 : FnText Tryz.prog 178 [] 23 3 dk7 [(6, none)] := tX Tryz.call178 follows Tryz.func178 rfl rfl (by decide) (by kernel_rfl) (by kernel_rfl)

def dn4 : AC := rdc (cO Tryz.prog [] 111 Tryz.f107) _ (by conv => lhs; reduce)
theorem co7 : FnText Tryz.prog 107 [] 111 3 dn4 [(6, none)] := tX Tryz.call107 follows Tryz.func107 rfl rfl (by decide) (by kernel_rfl) (by kernel_rfl)

def df1 : AC := rdc (cO Tryz.prog [6] 68 Tryz.f36) _ (by conv => lhs; reduce)
def cl1 : AC := rdc (lP 0 df1) _ (by conv => lhs; reduce)
theorem de0 : FnText Tryz.prog 36 [6] 68 2 df1 [(4, none), (5, none)] := tX Tryz.call36 follows Tryz.func36 rfl rfl (by decide) (by kernel_rfl) (by kernel_rfl)

def by6 : AC := rdc (cO Tryz.prog [2, 4] 42 Tryz.f111) _ (by conv => lhs; reduce)
def bp7 : AC := rdc (lP 0 by6) _ (by conv => lhs; reduce)
def bn1 : AC := rdc (lP 1 by6) _ (by conv => lhs; reduce)
theorem cg4 : FnText Tryz.prog 111 [2, 4] 42 2 by6 [(4, some (3, true))] := tX Tryz.call111 follows Tryz.func111 rfl rfl (by decide) (by kernel_rfl) (by kernel_rfl)

def ct7 : AC := rdc (cO Tryz.prog [9, 12] 107 Tryz.f38) _ (by conv => lhs; reduce)
def cf9 : AC := rdc (lP 0 ct7) _ (by conv => lhs; reduce)
theorem cu8 : FnText Tryz.prog 38 [9, 12] 107 2 ct7 [(4, none), (5, none), (6, none)] := tX Tryz.call38 follows Tryz.func38 rfl rfl (by decide) (by kernel_rfl) (by kernel_rfl)

def de1 : AC := rdc (cO Tryz.prog [6] 82 Tryz.f17) _ (by conv => lhs; reduce)
def cl8 : AC := rdc (lP 0 de1) _ (by conv => lhs; reduce)
def co9 : AC := rdc (lP 1 de1) _ (by conv => lhs; reduce)
theorem dd9 : FnText Tryz.prog 17 [6] 82 2 de1 [(4, none)] := tX Tryz.call17 follows Tryz.func17 rfl rfl (by decide) (by kernel_rfl) (by kernel_rfl)

def dg1 : AC := rdc (cO Tryz.prog [] 26 Tryz.f15) _ (by conv => lhs; reduce)
def cl3 : AC := rdc (lP 0 dg1) _ (by conv => lhs; reduce)
theorem bv4 : FnText Tryz.prog 15 [] 26 2 dg1 [(4, none)] := tX Tryz.call15 follows Tryz.func15 rfl rfl (by decide) (by kernel_rfl) (by kernel_rfl)

def cb5 : AC := rdc (cO Tryz.prog [7, 9] 76 Tryz.f39) _ (by conv => lhs; reduce)
def ch0 : AC := rdc (lP 0 cb5) _ (by conv => lhs; reduce)
def cb8 : AC := rdc (lP 1 cb5) _ (by conv => lhs; reduce)
theorem bu0 : FnText Tryz.prog 39 [7, 9] 76 2 cb5 [(4, none), (5, none), (6, none)] := tX Tryz.call39 follows Tryz.func39 rfl rfl (by decide) (by kernel_rfl) (by kernel_rfl)

def dg8 : AC := rdc (cO Tryz.prog [5, 20] 39 Tryz.f18) _ (by conv => lhs; reduce)
def cb2 : AC := rdc (lP 0 dg8) _ (by conv => lhs; reduce)
theorem bm7 : FnText Tryz.prog 18 [5, 20] 39 2 dg8 [(4, none)] := tX Tryz.call18 follows Tryz.func18 rfl rfl (by decide) (by kernel_rfl) (by kernel_rfl)

def cp4 : AC := rdc (cO Tryz.prog [9, 12] 91 Tryz.f40) _ (by conv => lhs; reduce)
def cj8 : AC := rdc (lP 0 cp4) _ (by conv => lhs; reduce)
def bz7 : AC := rdc (lP 1 cp4) _ (by conv => lhs; reduce)
theorem cz5 : FnText Tryz.prog 40 [9, 12] 91 2 cp4 [(4, none), (5, none), (6, none)] := tX Tryz.call40 follows Tryz.func40 rfl rfl (by decide) (by kernel_rfl) (by kernel_rfl)

def dj5 : AC := rdc (cO Tryz.prog [6] 53 Tryz.f19) _ (by conv => lhs; reduce)
def cf2 : AC := rdc (lP 0 dj5) _ (by conv => lhs; reduce)
theorem dc6 : FnText Tryz.prog 19 [6] 53 2 dj5 [(4, none)] := tX Tryz.call19 follows Tryz.func19 rfl rfl (by decide) (by kernel_rfl) (by kernel_rfl)

def ac3 : AC := rdc (cO Tryz.prog [] 33 Tryz.f3) _ (by conv => lhs; reduce)
theorem dn7 : FnText Tryz.prog 3 [] 33 2 ac3 [(4, none)] := tX Tryz.call3 follows Tryz.func3 rfl rfl (by decide) (by kernel_rfl) (by kernel_rfl)

def dq4 : AC := rdc (cO Tryz.prog [0, 1, 2, 3] 35 Tryz.f60) _ (by conv => lhs; reduce)
theorem cx5 : FnText Tryz.prog 60 [0, 1, 2, 3] 35 0 dq4 [(0, some (9, true))] := tX Tryz.call60 follows Tryz.func60 rfl rfl (by decide) (by kernel_rfl) (by kernel_rfl)

def de6 : AC := rdc (cO Tryz.prog [0] 8 Tryz.f134) _ (by conv => lhs; reduce)
theorem ca6 : FnText Tryz.prog 134 [0] 8 0 de6 [(0, some (9, true))] := tX Tryz.call134 follows Tryz.func134 rfl rfl (by decide) (by kernel_rfl) (by kernel_rfl)

def dq8 : AC := rdc (cO Tryz.prog [] 5 Tryz.f61) _ (by conv => lhs; reduce)
theorem da3 : FnText Tryz.prog 61 [] 5 1 dq8 [(2, none)] := tX Tryz.call61 follows Tryz.func61 rfl rfl (by decide) (by kernel_rfl) (by kernel_rfl)

def dk0 : AC := rdc (cO Tryz.prog [6] 54 Tryz.f64) _ (by conv => lhs; reduce)
def dp7 : AC := rdc (lP 0 dk0) _ (by conv => lhs; reduce)
theorem da0 : FnText Tryz.prog 64 [6] 54 2 dk0 [(4, none)] := tX Tryz.call64 follows Tryz.func64 rfl rfl (by decide) (by kernel_rfl) (by kernel_rfl)

def dm0 : AC := rdc (cO Tryz.prog [] 18 Tryz.f136) _ (by conv => lhs; reduce)
theorem cj6 : FnText Tryz.prog 136 [] 18 2 dm0 [(4, none)] := tX Tryz.call136 follows Tryz.func136 rfl rfl (by decide) (by kernel_rfl) (by kernel_rfl)

def dl8 : AC := rdc (cO Tryz.prog [] 14 Tryz.f203) _ (by conv => lhs; reduce)
theorem cc9 : FnText Tryz.prog 203 [] 14 2 dl8 [(4, none)] := tX Tryz.call203 follows Tryz.func203 rfl rfl (by decide) (by kernel_rfl) (by kernel_rfl)

def do4 : AC := rdc (cO Tryz.prog [4] 19 Tryz.f233) _ (by conv => lhs; reduce)
theorem bz6 : FnText Tryz.prog 233 [4] 19 2 do4 [(4, some (2, true))] := tX Tryz.call233 follows Tryz.func233 rfl rfl (by decide) (by kernel_rfl) (by kernel_rfl)

def dj8 : AC := rdc (cO Tryz.prog [4] 19 Tryz.f202) _ (by conv => lhs; reduce)
theorem ck1 : FnText Tryz.prog 202 [4] 19 2 dj8 [(4, some (2, true))] := tX Tryz.call202 follows Tryz.func202 rfl rfl (by decide) (by kernel_rfl) (by kernel_rfl)

def dm6 : AC := rdc (cO Tryz.prog [] 8 Tryz.f205) _ (by conv => lhs; reduce)
theorem cg1 : FnText Tryz.prog 205 [] 8 1 dm6 [(2, none)] := tX Tryz.call205 follows Tryz.func205 rfl rfl (by decide) (by kernel_rfl) (by kernel_rfl)

def dl9 : AC := rdc (cO Tryz.prog [] 19 Tryz.f242) _ (by conv => lhs; reduce)
theorem cm1 : FnText Tryz.prog 242 [] 19 1 dl9 [(2, none)] := tX Tryz.call242 follows Tryz.func242 rfl rfl (by decide) (by kernel_rfl) (by kernel_rfl)

def dm1 : AC := rdc (cO Tryz.prog [] 25 Tryz.f243) _ (by conv => lhs; reduce)
theorem ci3 : FnText Tryz.prog 243 [] 25 1 dm1 [(2, none)] := tX Tryz.call243 follows Tryz.func243 rfl rfl (by decide) (by kernel_rfl) (by kernel_rfl)

def cq9 : AC := rdc (cO Tryz.prog [] 148 Tryz.f204) _ (by conv => lhs; reduce)
def dk5 : AC := rdc (lP 0 cq9) _ (by conv => lhs; reduce)
theorem cn4 : FnText Tryz.prog 204 [] 148 5 cq9 [] := tX Tryz.call204 follows Tryz.func204 rfl rfl (by decide) (by kernel_rfl) (by kernel_rfl)

def bv0 : AC := rdc (cO Tryz.prog [] 53 Tryz.f234) _ (by conv => lhs; reduce)
def dh8 : AC := rdc (lP 0 bv0) _ (by conv => lhs; reduce)
def dl4 : AC := rdc (lP 1 bv0) _ (by conv => lhs; reduce)
theorem ch9 : FnText Tryz.prog 234 [] 53 4 bv0 [] := tX Tryz.call234 follows Tryz.func234 rfl rfl (by decide) (by kernel_rfl) (by kernel_rfl)

def cr7 : AC := rdc (cO Tryz.prog [] 134 Tryz.f207) _ (by conv => lhs; reduce)
def do1 : AC := rdc (lP 0 cr7) _ (by conv => lhs; reduce)
theorem cl6 : FnText Tryz.prog 207 [] 134 4 cr7 [] := tX Tryz.call207 follows Tryz.func207 rfl rfl (by decide) (by kernel_rfl) (by kernel_rfl)

def bs1 : AC := rdc (cO Tryz.prog [] 49 Tryz.f244) _ (by conv => lhs; reduce)
def dj7 : AC := rdc (lP 0 bs1) _ (by conv => lhs; reduce)
def dp4 : AC := rdc (lP 1 bs1) _ (by conv => lhs; reduce)
theorem ci2 : FnText Tryz.prog 244 [] 49 3 bs1 [] := tX Tryz.call244 follows Tryz.func244 rfl rfl (by decide) (by kernel_rfl) (by kernel_rfl)

def dl2 : AC := rdc (cO Tryz.prog [] 17 Tryz.f250) _ (by conv => lhs; reduce)
theorem cd8 : FnText Tryz.prog 250 [] 17 2 dl2 [(4, none)] := tX Tryz.call250 follows Tryz.func250 rfl rfl (by decide) (by kernel_rfl) (by kernel_rfl)

def cx0 : AC := rdc (cO Tryz.prog [] 35 Tryz.f110) _ (by conv => lhs; reduce)
theorem bq3 : FnText Tryz.prog 110 [] 35 1 cx0 [(2, none), (3, none), (4, none)] := tX Tryz.call110 follows Tryz.func110 rfl rfl (by decide) (by kernel_rfl) (by kernel_rfl)

end Go.Proofs.YtmonnlkagniolaaGreat
