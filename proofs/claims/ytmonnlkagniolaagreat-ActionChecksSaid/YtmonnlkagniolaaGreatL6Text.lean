/-
 The text of each function of this seat, as the plain library tells it; each by the kernel's own reckoning from the program.
-/
import Derived.Test.YtmonnlkagniolaaGreatPbV
import Derived.Test.YtmonnlkagniolaaGreatRows
set_option linter.unusedVariables false
set_option maxRecDepth 100000
namespace Go.Proofs.YtmonnlkagniolaaGreat
open Go Go.Pb
abbrev q_ (d : Nat) (o : AOp) : AOper := ⟨some d, o, none, false⟩
abbrev t_ (n : Nat) : Operand := .tmp n
abbrev k_ (i : Int) : Operand := .const (.int .i64 i)
abbrev m_ (d n : Nat) : AOper := ⟨some d, .move (.tmp n), none, false⟩
abbrev l_ (d n : Nat) : AOper := ⟨some d, .load 1 false (.tmp n), none, false⟩
abbrev f_ (d a n : Nat) : AOper := ⟨some d, .faddr a 1 false (.tmp n), none, false⟩
abbrev n_ (d a n : Nat) : AOper := ⟨some d, .bi .len [a].toArray 3 [.tmp n], none, false⟩
abbrev r_ (l : List AOper) : AC := .region false l
abbrev z_ : Operand := .const (.slice none 0 0)
theorem follows : Tryz.prog.follows .mixedOrders = true := by kernel_rfl
def bl3 : AC := rdc (cO Tryz.prog [] 120 Tryz.f33) _ (by conv => lhs; reduce)
def cc5 : AC := rdc (lP 0 bl3) _ (by conv => lhs; reduce)
def bv2 : AC := rdc (lP 1 bl3) _ (by conv => lhs; reduce)
def br8 : AC := rdc (lP 2 bl3) _ (by conv => lhs; reduce)
def br9 : AC := rdc (lP 3 bl3) _ (by conv => lhs; reduce)
theorem co8 : FnText Tryz.prog 33 [] 120 1 bl3 [(2, none)] := tX Tryz.call33 follows Tryz.func33 rfl rfl (by decide) (by kernel_rfl) (by kernel_rfl)

def dj3 : AC := rdc (cO Tryz.prog [1, 2, 3] 133 Tryz.f34) _ (by conv => lhs; reduce)
theorem cr5 : FnText Tryz.prog 34 [1, 2, 3] 133 0 dj3 [(0, none)] := tX Tryz.call34 follows Tryz.func34 rfl rfl (by decide) (by kernel_rfl) (by kernel_rfl)

def cu1 : AC := rdc (cO Tryz.prog [] 17 Tryz.f221) _ (by conv => lhs; reduce)
theorem aw2 : FnText Tryz.prog 221 [] 17 1 cu1 [(2, none)] := tX Tryz.call221 follows Tryz.func221 rfl rfl (by decide) (by kernel_rfl) (by kernel_rfl)

def cj2 : AC := rdc (cO Tryz.prog [] 20 Tryz.f222) _ (by conv => lhs; reduce)
def bm0 : AC := rdc (lP 0 cj2) _ (by conv => lhs; reduce)
theorem au4 : FnText Tryz.prog 222 [] 20 2 cj2 [(4, none)] := tX Tryz.call222 follows Tryz.func222 rfl rfl (by decide) (by kernel_rfl) (by kernel_rfl)

def cu7 : AC := rdc (cO Tryz.prog [] 9 Tryz.f224) _ (by conv => lhs; reduce)
theorem at3 : FnText Tryz.prog 224 [] 9 1 cu7 [(2, none)] := tX Tryz.call224 follows Tryz.func224 rfl rfl (by decide) (by kernel_rfl) (by kernel_rfl)

def cy5 : AC := rdc (cO Tryz.prog [] 13 Tryz.f223) _ (by conv => lhs; reduce)
theorem ax8 : FnText Tryz.prog 223 [] 13 1 cy5 [(2, none)] := tX Tryz.call223 follows Tryz.func223 rfl rfl (by decide) (by kernel_rfl) (by kernel_rfl)

def cz6 : AC := rdc (cO Tryz.prog [] 22 Tryz.f169) _ (by conv => lhs; reduce)
theorem ay5 : FnText Tryz.prog 169 [] 22 1 cz6 [(2, none)] := tX Tryz.call169 follows Tryz.func169 rfl rfl (by decide) (by kernel_rfl) (by kernel_rfl)

def di4 : AC := rdc (cO Tryz.prog [] 9 Tryz.f171) _ (by conv => lhs; reduce)
theorem au3 : FnText Tryz.prog 171 [] 9 2 di4 [(3, none)] := tX Tryz.call171 follows Tryz.func171 rfl rfl (by decide) (by kernel_rfl) (by kernel_rfl)

def ci6 : AC := rdc (cO Tryz.prog [] 19 Tryz.f225) _ (by conv => lhs; reduce)
def bi0 : AC := rdc (lP 0 ci6) _ (by conv => lhs; reduce)
theorem ar7 : FnText Tryz.prog 225 [] 19 2 ci6 [(4, none)] := tX Tryz.call225 follows Tryz.func225 rfl rfl (by decide) (by kernel_rfl) (by kernel_rfl)

def cy7 : AC := rdc (cO Tryz.prog [] 9 Tryz.f170) _ (by conv => lhs; reduce)
theorem av8 : FnText Tryz.prog 170 [] 9 2 cy7 [(4, none)] := tX Tryz.call170 follows Tryz.func170 rfl rfl (by decide) (by kernel_rfl) (by kernel_rfl)

def cj3 : AC := rdc (cO Tryz.prog [4] 51 Tryz.f103) _ (by conv => lhs; reduce)
def bh6 : AC := rdc (lP 0 cj3) _ (by conv => lhs; reduce)
theorem az1 : FnText Tryz.prog 103 [4] 51 1 cj3 [(2, none)] := tX Tryz.call103 follows Tryz.func103 rfl rfl (by decide) (by kernel_rfl) (by kernel_rfl)

def cx4 : AC := rdc (cO Tryz.prog [] 46 Tryz.f172) _ (by conv => lhs; reduce)
theorem av7 : FnText Tryz.prog 172 [] 46 2 cx4 [(4, none), (5, none)] := tX Tryz.call172 follows Tryz.func172 rfl rfl (by decide) (by kernel_rfl) (by kernel_rfl)

def df9 : AC := rdc (cO Tryz.prog [] 25 Tryz.f267) _ (by conv => lhs; reduce)
theorem av5 : FnText Tryz.prog 267 [] 25 1 df9 [(2, none)] := tX Tryz.call267 follows Tryz.func267 rfl rfl (by decide) (by kernel_rfl) (by kernel_rfl)

def dc7 : AC := rdc (cO Tryz.prog [] 11 Tryz.f287) _ (by conv => lhs; reduce)
theorem as0 : FnText Tryz.prog 287 [] 11 1 dc7 [(2, none), (3, none)] := tX Tryz.call287 follows Tryz.func287 rfl rfl (by decide) (by kernel_rfl) (by kernel_rfl)

def ci4 : AC := rdc (cO Tryz.prog [] 18 Tryz.f181) _ (by conv => lhs; reduce)
def bi6 : AC := rdc (lP 0 ci4) _ (by conv => lhs; reduce)
theorem ax2 : FnText Tryz.prog 181 [] 18 1 ci4 [(2, none)] := tX Tryz.call181 follows Tryz.func181 rfl rfl (by decide) (by kernel_rfl) (by kernel_rfl)

def cv3 : AC := rdc (cO Tryz.prog [] 10 Tryz.f182) _ (by conv => lhs; reduce)
theorem ax9 : FnText Tryz.prog 182 [] 10 1 cv3 [(2, none)] := tX Tryz.call182 follows Tryz.func182 rfl rfl (by decide) (by kernel_rfl) (by kernel_rfl)

def ci7 : AC := rdc (cO Tryz.prog [6] 45 Tryz.f288) _ (by conv => lhs; reduce)
theorem aw9 : FnText Tryz.prog 288 [6] 45 3 ci7 [(6, some (2, true)), (7, none)] := tX Tryz.call288 follows Tryz.func288 rfl rfl (by decide) (by kernel_rfl) (by kernel_rfl)

def de5 : AC := rdc (cO Tryz.prog [8] 90 Tryz.f268) _ (by conv => lhs; reduce)
theorem av2 : FnText Tryz.prog 268 [8] 90 2 de5 [(4, none), (5, none)] := tX Tryz.call268 follows Tryz.func268 rfl rfl (by decide) (by kernel_rfl) (by kernel_rfl)

def da6 : AC := rdc (cO Tryz.prog [] 91 Tryz.f269) _ (by conv => lhs; reduce)
theorem ax1 : FnText Tryz.prog 269 [] 91 2 da6 [(4, none), (5, none)] := tX Tryz.call269 follows Tryz.func269 rfl rfl (by decide) (by kernel_rfl) (by kernel_rfl)

def ch7 : AC := rdc (cO Tryz.prog [10] 73 Tryz.f226) _ (by conv => lhs; reduce)
def bi3 : AC := rdc (lP 0 ch7) _ (by conv => lhs; reduce)
theorem ax3 : FnText Tryz.prog 226 [10] 73 3 ch7 [(6, none), (7, none), (8, none)] := tX Tryz.call226 follows Tryz.func226 rfl rfl (by decide) (by kernel_rfl) (by kernel_rfl)

def dc3 : AC := rdc (cO Tryz.prog [] 27 Tryz.f174) _ (by conv => lhs; reduce)
theorem as6 : FnText Tryz.prog 174 [] 27 2 dc3 [(4, none), (5, none)] := tX Tryz.call174 follows Tryz.func174 rfl rfl (by decide) (by kernel_rfl) (by kernel_rfl)

def de1 : AC := rdc (cO Tryz.prog [] 24 Tryz.f173) _ (by conv => lhs; reduce)
theorem as8 : FnText Tryz.prog 173 [] 24 3 de1 [(6, none)] := tX Tryz.call173 follows Tryz.func173 rfl rfl (by decide) (by kernel_rfl) (by kernel_rfl)

def de7 : AC := rdc (cO Tryz.prog [5] 105 Tryz.f104) _ (by conv => lhs; reduce)
theorem ay1 : FnText Tryz.prog 104 [5] 105 2 de7 [(4, none)] := tX Tryz.call104 follows Tryz.func104 rfl rfl (by decide) (by kernel_rfl) (by kernel_rfl)

def db4 : AC := rdc (cO Tryz.prog [6, 7, 9] 50 Tryz.f35) _ (by conv => lhs; reduce)
def bq1 : AC := rdc (lP 0 db4) _ (by conv => lhs; reduce)
theorem bn6 : FnText Tryz.prog 35 [6, 7, 9] 50 2 db4 [(4, none), (5, none)] := tX Tryz.call35 follows Tryz.func35 rfl rfl (by decide) (by kernel_rfl) (by kernel_rfl)

def dd3 : AC := rdc (cO Tryz.prog [] 17 Tryz.f175) _ (by conv => lhs; reduce)
theorem cg4 : FnText Tryz.prog 175 [] 17 1 dd3 [(2, none)] := tX Tryz.call175 follows Tryz.func175 rfl rfl (by decide) (by kernel_rfl) (by kernel_rfl)

def db0 : AC := rdc (cO Tryz.prog [] 9 Tryz.f176) _ (by conv => lhs; reduce)
theorem ce5 : FnText Tryz.prog 176 [] 9 1 db0 [(2, none)] := tX Tryz.call176 follows Tryz.func176 rfl rfl (by decide) (by kernel_rfl) (by kernel_rfl)

def ck1 : AC := rdc (cO Tryz.prog [] 41 Tryz.f105) _ (by conv => lhs; reduce)
def bk1 : AC := rdc (lP 0 ck1) _ (by conv => lhs; reduce)
theorem bt8 : FnText Tryz.prog 105 [] 41 1 ck1 [(2, none)] := tX Tryz.call105 follows Tryz.func105 rfl rfl (by decide) (by kernel_rfl) (by kernel_rfl)

def bd7 : AC := rdc (cO Tryz.prog [] 50 Tryz.f106) _ (by conv => lhs; reduce)
def bm2 : AC := rdc (lP 0 bd7) _ (by conv => lhs; reduce)
def be5 : AC := rdc (lP 1 bd7) _ (by conv => lhs; reduce)
theorem bs5 : FnText Tryz.prog 106 [] 50 1 bd7 [(2, none)] := tX Tryz.call106 follows Tryz.func106 rfl rfl (by decide) (by kernel_rfl) (by kernel_rfl)

def dj2 : AC := rdc (cO Tryz.prog [4] 13 Tryz.f85) _ (by conv => lhs; reduce)
theorem cm2 : FnText Tryz.prog 85 [4] 13 2 dj2 [(4, some (10, true))] := tX Tryz.call85 follows Tryz.func85 rfl rfl (by decide) (by kernel_rfl) (by kernel_rfl)

def cu8 : AC := rdc (cO Tryz.prog [] 46 Tryz.f177) _ (by conv => lhs; reduce)
theorem bp5 : FnText Tryz.prog 177 [] 46 2 cu8 [(4, none), (5, none)] := tX Tryz.call177 follows Tryz.func177 rfl rfl (by decide) (by kernel_rfl) (by kernel_rfl)

def db8 : AC := rdc (cO Tryz.prog [] 27 Tryz.f219) _ (by conv => lhs; reduce)
theorem bu4 : FnText Tryz.prog 219 [] 27 1 db8 [(2, none)] := tX Tryz.call219 follows Tryz.func219 rfl rfl (by decide) (by kernel_rfl) (by kernel_rfl)

def cy4 : AC := rdc (cO Tryz.prog [] 11 Tryz.f285) _ (by conv => lhs; reduce)
theorem cf9 : FnText Tryz.prog 285 [] 11 1 cy4 [(2, none), (3, none)] := tX Tryz.call285 follows Tryz.func285 rfl rfl (by decide) (by kernel_rfl) (by kernel_rfl)

def da1 : AC := rdc (cO Tryz.prog [] 9 Tryz.f183) _ (by conv => lhs; reduce)
theorem bv0 : FnText Tryz.prog 183 [] 9 1 da1 [(2, none)] := tX Tryz.call183 follows Tryz.func183 rfl rfl (by decide) (by kernel_rfl) (by kernel_rfl)

def ci9 : AC := rdc (cO Tryz.prog [] 13 Tryz.f184) _ (by conv => lhs; reduce)
def bj2 : AC := rdc (lP 0 ci9) _ (by conv => lhs; reduce)
theorem cb8 : FnText Tryz.prog 184 [] 13 1 ci9 [(2, none)] := tX Tryz.call184 follows Tryz.func184 rfl rfl (by decide) (by kernel_rfl) (by kernel_rfl)

def df2 : AC := rdc (cO Tryz.prog [] 10 Tryz.f286) _ (by conv => lhs; reduce)
theorem cc7 : FnText Tryz.prog 286 [] 10 1 df2 [(2, none)] := tX Tryz.call286 follows Tryz.func286 rfl rfl (by decide) (by kernel_rfl) (by kernel_rfl)

def dh7 : AC := rdc (cO Tryz.prog [] 91 Tryz.f258) _ (by conv => lhs; reduce)
theorem bs0 : FnText Tryz.prog 258 [] 91 2 dh7 [(4, none), (5, none)] := tX Tryz.call258 follows Tryz.func258 rfl rfl (by decide) (by kernel_rfl) (by kernel_rfl)

def cy6 : AC := rdc (cO Tryz.prog [] 105 Tryz.f259) _ (by conv => lhs; reduce)
theorem bw1 : FnText Tryz.prog 259 [] 105 2 cy6 [(4, none), (5, none)] := tX Tryz.call259 follows Tryz.func259 rfl rfl (by decide) (by kernel_rfl) (by kernel_rfl)

def ck0 : AC := rdc (cO Tryz.prog [] 85 Tryz.f216) _ (by conv => lhs; reduce)
def bn7 : AC := rdc (lP 0 ck0) _ (by conv => lhs; reduce)
theorem bv9 : FnText Tryz.prog 216 [] 85 3 ck0 [(6, none), (7, none), (8, none)] := tX Tryz.call216 follows Tryz.func216 rfl rfl (by decide) (by kernel_rfl) (by kernel_rfl)

def dg7 : AC := rdc (cO Tryz.prog [] 29 Tryz.f156) _ (by conv => lhs; reduce)
theorem bv8 : FnText Tryz.prog 156 [] 29 2 dg7 [(4, none), (5, none)] := tX Tryz.call156 follows Tryz.func156 rfl rfl (by decide) (by kernel_rfl) (by kernel_rfl)

def cz4 : AC := rdc (cO Tryz.prog [] 23 Tryz.f178) _ (by conv => lhs; reduce)
theorem bw5 : FnText Tryz.prog 178 [] 23 3 cz4 [(6, none)] := tX Tryz.call178 follows Tryz.func178 rfl rfl (by decide) (by kernel_rfl) (by kernel_rfl)

def cx0 : AC := rdc (cO Tryz.prog [] 111 Tryz.f107) _ (by conv => lhs; reduce)
theorem cf4 : FnText Tryz.prog 107 [] 111 3 cx0 [(6, none)] := tX Tryz.call107 follows Tryz.func107 rfl rfl (by decide) (by kernel_rfl) (by kernel_rfl)

def da0 : AC := rdc (cO Tryz.prog [6] 68 Tryz.f36) _ (by conv => lhs; reduce)
def bs3 : AC := rdc (lP 0 da0) _ (by conv => lhs; reduce)
theorem cl7 : FnText Tryz.prog 36 [6] 68 2 da0 [(4, none), (5, none)] := tX Tryz.call36 follows Tryz.func36 rfl rfl (by decide) (by kernel_rfl) (by kernel_rfl)

def cu3 : AC := rdc (cO Tryz.prog [] 21 Tryz.f108) _ (by conv => lhs; reduce)
theorem at9 : FnText Tryz.prog 108 [] 21 2 cu3 [(4, none)] := tX Tryz.call108 follows Tryz.func108 rfl rfl (by decide) (by kernel_rfl) (by kernel_rfl)

def cw8 : AC := rdc (cO Tryz.prog [] 6 Tryz.f206) _ (by conv => lhs; reduce)
theorem ay2 : FnText Tryz.prog 206 [] 6 1 cw8 [(2, none)] := tX Tryz.call206 follows Tryz.func206 rfl rfl (by decide) (by kernel_rfl) (by kernel_rfl)

def db2 : AC := rdc (cO Tryz.prog [] 20 Tryz.f141) _ (by conv => lhs; reduce)
theorem aw7 : FnText Tryz.prog 141 [] 20 2 db2 [(4, none)] := tX Tryz.call141 follows Tryz.func141 rfl rfl (by decide) (by kernel_rfl) (by kernel_rfl)

def ck2 : AC := rdc (cO Tryz.prog [] 18 Tryz.f140) _ (by conv => lhs; reduce)
def bm4 : AC := rdc (lP 0 ck2) _ (by conv => lhs; reduce)
theorem au1 : FnText Tryz.prog 140 [] 18 1 ck2 [(2, none)] := tX Tryz.call140 follows Tryz.func140 rfl rfl (by decide) (by kernel_rfl) (by kernel_rfl)

def dg6 : AC := rdc (cO Tryz.prog [] 17 Tryz.f139) _ (by conv => lhs; reduce)
theorem af5 : FnText Tryz.prog 139 [] 17 2 dg6 [(4, none)] := tX Tryz.call139 follows Tryz.func139 rfl rfl (by decide) (by kernel_rfl) (by kernel_rfl)

def cy8 : AC := rdc (cO Tryz.prog [] 17 Tryz.f179) _ (by conv => lhs; reduce)
theorem ae2 : FnText Tryz.prog 179 [] 17 2 cy8 [(4, none)] := tX Tryz.call179 follows Tryz.func179 rfl rfl (by decide) (by kernel_rfl) (by kernel_rfl)

def cv6 : AC := rdc (cO Tryz.prog [] 14 Tryz.f138) _ (by conv => lhs; reduce)
theorem ag9 : FnText Tryz.prog 138 [] 14 2 cv6 [] := tX Tryz.call138 follows Tryz.func138 rfl rfl (by decide) (by kernel_rfl) (by kernel_rfl)

def uy : AC :=
 .seq (.seq (r_ [m_ 29 5,
 m_ 30 4,
 n_ 31 75 30,
 q_ 32 (.bin .lss 3 (t_ 29) (t_ 31))])
 (.cond (t_ 32)
 (.skip)
 (.exit 2)))
 (.seq (.block 3 (.seq (.region true [m_ 35 4,
 m_ 36 5,
 q_ 37 (.iaddr 2 (t_ 35) (t_ 36)),
 q_ 38 (.load 2 true (t_ 37)),
 m_ 39 4,
 m_ 40 5,
 q_ 41 (.bin .sub 3 (t_ 40) (k_ 1)),
 q_ 42 (.iaddr 2 (t_ 39) (t_ 41)),
 q_ 43 (.load 2 true (t_ 42)),
 q_ 44 (.bin .neq 87 (t_ 38) (t_ 43))])
 (.cond (t_ 44)
 (.seq (r_ [m_ 45 0,
 m_ 46 3,
 m_ 47 4,
 m_ 48 5,
 q_ 49 (.iaddr 2 (t_ 47) (t_ 48)),
 q_ 50 (.load 2 true (t_ 49)),
 q_ 51 (.iaddr 2 (t_ 45) (t_ 46)),
 ⟨none, .store 2 (t_ 51) (t_ 50), none, false⟩])
 (r_ [m_ 52 3,
 q_ 53 (.bin .add 3 (t_ 52) (k_ 1)),
 m_ 3 53]))
 (.skip))))
 (r_ [m_ 33 5,
 q_ 34 (.bin .add 3 (t_ 33) (k_ 1)),
 m_ 5 34]))
def vt : AC :=
 .seq (.seq (r_ [m_ 10 3,
 m_ 11 0,
 n_ 12 75 11,
 q_ 13 (.bin .lss 3 (t_ 10) (t_ 12))])
 (.cond (t_ 13)
 (.skip)
 (.exit 0)))
 (.seq (.block 1 (.seq (.region true [m_ 16 0,
 m_ 17 3,
 q_ 18 (.iaddr 2 (t_ 16) (t_ 17)),
 q_ 19 (.load 2 true (t_ 18)),
 m_ 20 0,
 m_ 21 3,
 q_ 22 (.bin .sub 3 (t_ 21) (k_ 1)),
 q_ 23 (.iaddr 2 (t_ 20) (t_ 22)),
 q_ 24 (.load 2 true (t_ 23)),
 q_ 25 (.bin .eql 87 (t_ 19) (t_ 24))])
 (.cond (t_ 25)
 (.seq (r_ [m_ 26 0,
 m_ 27 3,
 (q_ 28 (.slice 75 2 (t_ 26) (some (t_ 27)) none none)),
 m_ 4 28])
 (.seq (.seq (r_ [q_ 5 (.move (k_ 1))])
 (.block 2 (.loop uy)))
 (.seq (r_ [m_ 54 0,
 m_ 55 3,
 (q_ 56 (.slice 75 2 (t_ 54) (some (t_ 55)) none none)),
 ⟨none, .clr 2 (.agg [(.int .i64 0), (.int .i64 0)].toArray) (t_ 56), none, false⟩])
 (.seq (r_ [m_ 57 0,
 m_ 58 3,
 (q_ 59 (.slice 75 2 (t_ 57) none (some (t_ 58)) none)),
 m_ 2 59])
 (.ret)))))
 (.skip))))
 (r_ [m_ 14 3,
 q_ 15 (.bin .add 3 (t_ 14) (k_ 1)),
 m_ 3 15]))
/-- slices.Compact[[]patchbay/api.FieldRef,patchbay/api.FieldRef] -/
def bf7 : AC :=
 .seq (r_ [q_ 2 (.move z_)])
 (.seq (.seq (r_ [m_ 6 0,
 n_ 7 75 6,
 q_ 8 (.bin .lss 3 (t_ 7) (k_ 2))])
 (.cond (t_ 8)
 (.seq (r_ [m_ 9 0,
 m_ 2 9])
 (.ret))
 (.skip)))
 (.seq (.seq (r_ [q_ 3 (.move (k_ 1))])
 (.block 0 (.loop vt)))
 (.seq (r_ [m_ 60 0,
 m_ 2 60])
 (.ret))))
theorem aw6 : FnText Tryz.prog 142 [] 61 1 bf7 [(2, none)] :=
 ⟨Tryz.call142, follows, Tryz.f142, _, Tryz.func142, rfl, rfl, by decide, by kernel_rfl, by kernel_rfl⟩

def dg2 : AC := rdc (cO Tryz.prog [5] 28 Tryz.f66) _ (by conv => lhs; reduce)
def bq8 : AC := rdc (lP 0 dg2) _ (by conv => lhs; reduce)
theorem bg8 : FnText Tryz.prog 66 [5] 28 1 dg2 [(2, none)] := tX Tryz.call66 follows Tryz.func66 rfl rfl (by decide) (by kernel_rfl) (by kernel_rfl)

def da5 : AC := rdc (cO Tryz.prog [] 11 Tryz.f143) _ (by conv => lhs; reduce)
theorem ar3 : FnText Tryz.prog 143 [] 11 1 da5 [] := tX Tryz.call143 follows Tryz.func143 rfl rfl (by decide) (by kernel_rfl) (by kernel_rfl)

def vo : AC :=
 .seq (.seq (r_ [m_ 29 5,
 m_ 30 4,
 n_ 31 29 30,
 q_ 32 (.bin .lss 3 (t_ 29) (t_ 31))])
 (.cond (t_ 32)
 (.skip)
 (.exit 2)))
 (.seq (.block 3 (.seq (.region true [m_ 35 4,
 m_ 36 5,
 q_ 37 (.iaddr 1 (t_ 35) (t_ 36)),
 l_ 38 37,
 m_ 39 4,
 m_ 40 5,
 q_ 41 (.bin .sub 3 (t_ 40) (k_ 1)),
 q_ 42 (.iaddr 1 (t_ 39) (t_ 41)),
 l_ 43 42,
 q_ 44 (.bin .neq 3 (t_ 38) (t_ 43))])
 (.cond (t_ 44)
 (.seq (r_ [m_ 45 0,
 m_ 46 3,
 m_ 47 4,
 m_ 48 5,
 q_ 49 (.iaddr 1 (t_ 47) (t_ 48)),
 l_ 50 49,
 q_ 51 (.iaddr 1 (t_ 45) (t_ 46)),
 ⟨none, .store 1 (t_ 51) (t_ 50), none, false⟩])
 (r_ [m_ 52 3,
 q_ 53 (.bin .add 3 (t_ 52) (k_ 1)),
 m_ 3 53]))
 (.skip))))
 (r_ [m_ 33 5,
 q_ 34 (.bin .add 3 (t_ 33) (k_ 1)),
 m_ 5 34]))
def vg : AC :=
 .seq (.seq (r_ [m_ 10 3,
 m_ 11 0,
 n_ 12 29 11,
 q_ 13 (.bin .lss 3 (t_ 10) (t_ 12))])
 (.cond (t_ 13)
 (.skip)
 (.exit 0)))
 (.seq (.block 1 (.seq (.region true [m_ 16 0,
 m_ 17 3,
 q_ 18 (.iaddr 1 (t_ 16) (t_ 17)),
 l_ 19 18,
 m_ 20 0,
 m_ 21 3,
 q_ 22 (.bin .sub 3 (t_ 21) (k_ 1)),
 q_ 23 (.iaddr 1 (t_ 20) (t_ 22)),
 l_ 24 23,
 q_ 25 (.bin .eql 3 (t_ 19) (t_ 24))])
 (.cond (t_ 25)
 (.seq (r_ [m_ 26 0,
 m_ 27 3,
 (q_ 28 (.slice 29 1 (t_ 26) (some (t_ 27)) none none)),
 m_ 4 28])
 (.seq (.seq (r_ [q_ 5 (.move (k_ 1))])
 (.block 2 (.loop vo)))
 (.seq (r_ [m_ 54 0,
 m_ 55 3,
 (q_ 56 (.slice 29 1 (t_ 54) (some (t_ 55)) none none)),
 ⟨none, .clr 1 (.int .i64 0) (t_ 56), none, false⟩])
 (.seq (r_ [m_ 57 0,
 m_ 58 3,
 (q_ 59 (.slice 29 1 (t_ 57) none (some (t_ 58)) none)),
 m_ 2 59])
 (.ret)))))
 (.skip))))
 (r_ [m_ 14 3,
 q_ 15 (.bin .add 3 (t_ 14) (k_ 1)),
 m_ 3 15]))
/-- slices.Compact[[]int,int] -/
def bg1 : AC :=
 .seq (r_ [q_ 2 (.move z_)])
 (.seq (.seq (r_ [m_ 6 0,
 n_ 7 29 6,
 q_ 8 (.bin .lss 3 (t_ 7) (k_ 2))])
 (.cond (t_ 8)
 (.seq (r_ [m_ 9 0,
 m_ 2 9])
 (.ret))
 (.skip)))
 (.seq (.seq (r_ [q_ 3 (.move (k_ 1))])
 (.block 0 (.loop vg)))
 (.seq (r_ [m_ 60 0,
 m_ 2 60])
 (.ret))))
theorem az0 : FnText Tryz.prog 144 [] 61 1 bg1 [(2, none)] :=
 ⟨Tryz.call144, follows, Tryz.f144, _, Tryz.func144, rfl, rfl, by decide, by kernel_rfl, by kernel_rfl⟩

def de2 : AC := rdc (cO Tryz.prog [5] 25 Tryz.f67) _ (by conv => lhs; reduce)
def ch4 : AC := rdc (lP 0 de2) _ (by conv => lhs; reduce)
theorem bd9 : FnText Tryz.prog 67 [5] 25 1 de2 [(2, none)] := tX Tryz.call67 follows Tryz.func67 rfl rfl (by decide) (by kernel_rfl) (by kernel_rfl)

def db1 : AC := rdc (cO Tryz.prog [] 24 Tryz.f109) _ (by conv => lhs; reduce)
theorem aw0 : FnText Tryz.prog 109 [] 24 2 db1 [] := tX Tryz.call109 follows Tryz.func109 rfl rfl (by decide) (by kernel_rfl) (by kernel_rfl)

def db9 : AC := rdc (cO Tryz.prog [1000000] 35 Tryz.f110) _ (by conv => lhs; reduce)
theorem by6 : FnText Tryz.prog 110 [1000000] 35 1 db9 [(2, none), (3, none), (4, none)] := tX Tryz.call110 follows Tryz.func110 rfl rfl (by decide) (by kernel_rfl) (by kernel_rfl)

def ck7 : AC := rdc (cO Tryz.prog [7, 9] 81 Tryz.f37) _ (by conv => lhs; reduce)
def bw0 : AC := rdc (lP 0 ck7) _ (by conv => lhs; reduce)
theorem bl2 : FnText Tryz.prog 37 [7, 9] 81 2 ck7 [(4, none), (5, none), (6, none)] := tX Tryz.call37 follows Tryz.func37 rfl rfl (by decide) (by kernel_rfl) (by kernel_rfl)

def de9 : AC := rdc (cO Tryz.prog [] 24 Tryz.f180) _ (by conv => lhs; reduce)
theorem cg1 : FnText Tryz.prog 180 [] 24 2 de9 [(4, none)] := tX Tryz.call180 follows Tryz.func180 rfl rfl (by decide) (by kernel_rfl) (by kernel_rfl)

def ch8 : AC := rdc (cO Tryz.prog [] 49 Tryz.f113) _ (by conv => lhs; reduce)
def bk5 : AC := rdc (lP 0 ch8) _ (by conv => lhs; reduce)
theorem cb7 : FnText Tryz.prog 113 [] 49 2 ch8 [(4, none)] := tX Tryz.call113 follows Tryz.func113 rfl rfl (by decide) (by kernel_rfl) (by kernel_rfl)

def dg3 : AC := rdc (cO Tryz.prog [] 31 Tryz.f71) _ (by conv => lhs; reduce)
def bx8 : AC := rdc (lP 0 dg3) _ (by conv => lhs; reduce)
theorem cr1 : FnText Tryz.prog 71 [] 31 1 dg3 [(2, none)] := tX Tryz.call71 follows Tryz.func71 rfl rfl (by decide) (by kernel_rfl) (by kernel_rfl)

def ck3 : AC := rdc (cO Tryz.prog [] 48 Tryz.f112) _ (by conv => lhs; reduce)
def bc9 : AC := rdc (lP 0 ck3) _ (by conv => lhs; reduce)
theorem bs1 : FnText Tryz.prog 112 [] 48 2 ck3 [(4, none)] := tX Tryz.call112 follows Tryz.func112 rfl rfl (by decide) (by kernel_rfl) (by kernel_rfl)

def db7 : AC := rdc (cO Tryz.prog [] 25 Tryz.f72) _ (by conv => lhs; reduce)
def bp8 : AC := rdc (lP 0 db7) _ (by conv => lhs; reduce)
theorem cm3 : FnText Tryz.prog 72 [] 25 1 db7 [(2, none)] := tX Tryz.call72 follows Tryz.func72 rfl rfl (by decide) (by kernel_rfl) (by kernel_rfl)

def bk8 : AC := rdc (cO Tryz.prog [2, 4] 42 Tryz.f111) _ (by conv => lhs; reduce)
def bl4 : AC := rdc (lP 0 bk8) _ (by conv => lhs; reduce)
def bf8 : AC := rdc (lP 1 bk8) _ (by conv => lhs; reduce)
theorem cc9 : FnText Tryz.prog 111 [2, 4] 42 2 bk8 [(4, some (3, true))] := tX Tryz.call111 follows Tryz.func111 rfl rfl (by decide) (by kernel_rfl) (by kernel_rfl)

def cl5 : AC := rdc (cO Tryz.prog [9, 12] 107 Tryz.f38) _ (by conv => lhs; reduce)
def cb5 : AC := rdc (lP 0 cl5) _ (by conv => lhs; reduce)
theorem cr3 : FnText Tryz.prog 38 [9, 12] 107 2 cl5 [(4, none), (5, none), (6, none)] := tX Tryz.call38 follows Tryz.func38 rfl rfl (by decide) (by kernel_rfl) (by kernel_rfl)

def ce9 : AC := rdc (cO Tryz.prog [7, 9] 76 Tryz.f39) _ (by conv => lhs; reduce)
def cc1 : AC := rdc (lP 0 ce9) _ (by conv => lhs; reduce)
def bx3 : AC := rdc (lP 1 ce9) _ (by conv => lhs; reduce)
theorem bd3 : FnText Tryz.prog 39 [7, 9] 76 2 ce9 [(4, none), (5, none), (6, none)] := tX Tryz.call39 follows Tryz.func39 rfl rfl (by decide) (by kernel_rfl) (by kernel_rfl)

def bu9 : AC := rdc (cO Tryz.prog [9, 12] 91 Tryz.f40) _ (by conv => lhs; reduce)
def bw8 : AC := rdc (lP 0 bu9) _ (by conv => lhs; reduce)
def bv5 : AC := rdc (lP 1 bu9) _ (by conv => lhs; reduce)
theorem cs9 : FnText Tryz.prog 40 [9, 12] 91 2 bu9 [(4, none), (5, none), (6, none)] := tX Tryz.call40 follows Tryz.func40 rfl rfl (by decide) (by kernel_rfl) (by kernel_rfl)

def cz5 : AC := rdc (cO Tryz.prog [] 14 Tryz.f114) _ (by conv => lhs; reduce)
theorem ay3 : FnText Tryz.prog 114 [] 14 2 cz5 [(4, none)] := tX Tryz.call114 follows Tryz.func114 rfl rfl (by decide) (by kernel_rfl) (by kernel_rfl)

def cz2 : AC := rdc (cO Tryz.prog [] 49 Tryz.f41) _ (by conv => lhs; reduce)
def by4 : AC := rdc (lP 0 cz2) _ (by conv => lhs; reduce)
theorem bj8 : FnText Tryz.prog 41 [] 49 2 cz2 [(4, none)] := tX Tryz.call41 follows Tryz.func41 rfl rfl (by decide) (by kernel_rfl) (by kernel_rfl)

def cz8 : AC := rdc (cO Tryz.prog [] 14 Tryz.f115) _ (by conv => lhs; reduce)
theorem bq4 : FnText Tryz.prog 115 [] 14 2 cz8 [(4, none)] := tX Tryz.call115 follows Tryz.func115 rfl rfl (by decide) (by kernel_rfl) (by kernel_rfl)

def dg0 : AC := rdc (cO Tryz.prog [] 49 Tryz.f42) _ (by conv => lhs; reduce)
def bw7 : AC := rdc (lP 0 dg0) _ (by conv => lhs; reduce)
theorem cl1 : FnText Tryz.prog 42 [] 49 2 dg0 [(4, none)] := tX Tryz.call42 follows Tryz.func42 rfl rfl (by decide) (by kernel_rfl) (by kernel_rfl)

def dd6 : AC := rdc (cO Tryz.prog [] 26 Tryz.f43) _ (by conv => lhs; reduce)
def ce8 : AC := rdc (lP 0 dd6) _ (by conv => lhs; reduce)
theorem bm8 : FnText Tryz.prog 43 [] 26 2 dd6 [(4, none)] := tX Tryz.call43 follows Tryz.func43 rfl rfl (by decide) (by kernel_rfl) (by kernel_rfl)

def de4 : AC := rdc (cO Tryz.prog [] 26 Tryz.f32) _ (by conv => lhs; reduce)
def cc0 : AC := rdc (lP 0 de4) _ (by conv => lhs; reduce)
theorem bl0 : FnText Tryz.prog 32 [] 26 2 de4 [(4, none)] := tX Tryz.call32 follows Tryz.func32 rfl rfl (by decide) (by kernel_rfl) (by kernel_rfl)

def ac6 : AC := rdc (cO Tryz.prog [] 121 Tryz.f6) _ (by conv => lhs; reduce)
theorem cu9 : FnText Tryz.prog 6 [] 121 3 ac6 [(6, none)] := tX Tryz.call6 follows Tryz.func6 rfl rfl (by decide) (by kernel_rfl) (by kernel_rfl)

def dg5 : AC := rdc (cO Tryz.prog [0] 29 Tryz.f102) _ (by conv => lhs; reduce)
theorem bu3 : FnText Tryz.prog 102 [0] 29 0 dg5 [(0, some (9, true))] := tX Tryz.call102 follows Tryz.func102 rfl rfl (by decide) (by kernel_rfl) (by kernel_rfl)

def da9 : AC := rdc (cO Tryz.prog [8, 22, 13, 15] 94 Tryz.f44) _ (by conv => lhs; reduce)
def di7 : AC := rdc (lP 0 da9) _ (by conv => lhs; reduce)
theorem cr2 : FnText Tryz.prog 44 [8, 22, 13, 15] 94 4 da9 [(8, some (4, true)), (9, none)] := tX Tryz.call44 follows Tryz.func44 rfl rfl (by decide) (by kernel_rfl) (by kernel_rfl)

def ci1 : AC := rdc (cO Tryz.prog [2, 3] 36 Tryz.f116) _ (by conv => lhs; reduce)
def cy0 : AC := rdc (lP 0 ci1) _ (by conv => lhs; reduce)
theorem di5 : FnText Tryz.prog 116 [2, 3] 36 1 ci1 [(2, some (4, true))] := tX Tryz.call116 follows Tryz.func116 rfl rfl (by decide) (by kernel_rfl) (by kernel_rfl)

def ci8 : AC := rdc (cO Tryz.prog [] 17 Tryz.f185) _ (by conv => lhs; reduce)
def cv5 : AC := rdc (lP 0 ci8) _ (by conv => lhs; reduce)
theorem ce7 : FnText Tryz.prog 185 [] 17 1 ci8 [(2, none)] := tX Tryz.call185 follows Tryz.func185 rfl rfl (by decide) (by kernel_rfl) (by kernel_rfl)

def cj5 : AC := rdc (cO Tryz.prog [] 17 Tryz.f186) _ (by conv => lhs; reduce)
def cy3 : AC := rdc (lP 0 cj5) _ (by conv => lhs; reduce)
theorem bq9 : FnText Tryz.prog 186 [] 17 1 cj5 [(2, none)] := tX Tryz.call186 follows Tryz.func186 rfl rfl (by decide) (by kernel_rfl) (by kernel_rfl)

def cj1 : AC := rdc (cO Tryz.prog [] 17 Tryz.f187) _ (by conv => lhs; reduce)
def cw4 : AC := rdc (lP 0 cj1) _ (by conv => lhs; reduce)
theorem cf2 : FnText Tryz.prog 187 [] 17 1 cj1 [(2, none)] := tX Tryz.call187 follows Tryz.func187 rfl rfl (by decide) (by kernel_rfl) (by kernel_rfl)

def cj8 : AC := rdc (cO Tryz.prog [] 30 Tryz.f117) _ (by conv => lhs; reduce)
def dg1 : AC := rdc (lP 0 cj8) _ (by conv => lhs; reduce)
theorem bv6 : FnText Tryz.prog 117 [] 30 1 cj8 [(2, none)] := tX Tryz.call117 follows Tryz.func117 rfl rfl (by decide) (by kernel_rfl) (by kernel_rfl)

def db5 : AC := rdc (cO Tryz.prog [] 23 Tryz.f118) _ (by conv => lhs; reduce)
theorem cf0 : FnText Tryz.prog 118 [] 23 2 db5 [] := tX Tryz.call118 follows Tryz.func118 rfl rfl (by decide) (by kernel_rfl) (by kernel_rfl)

def cw3 : AC := rdc (cO Tryz.prog [] 19 Tryz.f189) _ (by conv => lhs; reduce)
theorem bt0 : FnText Tryz.prog 189 [] 19 2 cw3 [(4, none)] := tX Tryz.call189 follows Tryz.func189 rfl rfl (by decide) (by kernel_rfl) (by kernel_rfl)

def cv0 : AC := rdc (cO Tryz.prog [11] 27 Tryz.f228) _ (by conv => lhs; reduce)
theorem cd8 : FnText Tryz.prog 228 [11] 27 4 cv0 [(8, none)] := tX Tryz.call228 follows Tryz.func228 rfl rfl (by decide) (by kernel_rfl) (by kernel_rfl)

def cy1 : AC := rdc (cO Tryz.prog [2, 3, 4, 5, 6, 7, 8, 1000000] 62 Tryz.f273) _ (by conv => lhs; reduce)
theorem cg6 : FnText Tryz.prog 273 [2, 3, 4, 5, 6, 7, 8, 1000000] 62 1 cy1 [(2, some (2, true))] := tX Tryz.call273 follows Tryz.func273 rfl rfl (by decide) (by kernel_rfl) (by kernel_rfl)

def cx9 : AC := rdc (cO Tryz.prog [4] 82 Tryz.f289) _ (by conv => lhs; reduce)
theorem bp6 : FnText Tryz.prog 289 [4] 82 2 cx9 [(4, some (2, true))] := tX Tryz.call289 follows Tryz.func289 rfl rfl (by decide) (by kernel_rfl) (by kernel_rfl)

def cu4 : AC := rdc (cO Tryz.prog [] 20 Tryz.f294) _ (by conv => lhs; reduce)
theorem cg2 : FnText Tryz.prog 294 [] 20 2 cu4 [(4, none)] := tX Tryz.call294 follows Tryz.func294 rfl rfl (by decide) (by kernel_rfl) (by kernel_rfl)

def cu5 : AC := rdc (cO Tryz.prog [] 36 Tryz.f227) _ (by conv => lhs; reduce)
theorem ch1 : FnText Tryz.prog 227 [] 36 2 cu5 [(4, none), (5, none)] := tX Tryz.call227 follows Tryz.func227 rfl rfl (by decide) (by kernel_rfl) (by kernel_rfl)

def cv4 : AC := rdc (cO Tryz.prog [] 13 Tryz.f270) _ (by conv => lhs; reduce)
theorem bt2 : FnText Tryz.prog 270 [] 13 2 cv4 [(4, none)] := tX Tryz.call270 follows Tryz.func270 rfl rfl (by decide) (by kernel_rfl) (by kernel_rfl)

def cw0 : AC := rdc (cO Tryz.prog [] 19 Tryz.f271) _ (by conv => lhs; reduce)
theorem cg5 : FnText Tryz.prog 271 [] 19 2 cw0 [(4, none)] := tX Tryz.call271 follows Tryz.func271 rfl rfl (by decide) (by kernel_rfl) (by kernel_rfl)

def dd4 : AC := rdc (cO Tryz.prog [] 19 Tryz.f272) _ (by conv => lhs; reduce)
theorem cd1 : FnText Tryz.prog 272 [] 19 2 dd4 [(4, none)] := tX Tryz.call272 follows Tryz.func272 rfl rfl (by decide) (by kernel_rfl) (by kernel_rfl)

def di0 : AC := rdc (cO Tryz.prog [4] 51 Tryz.f290) _ (by conv => lhs; reduce)
theorem cf6 : FnText Tryz.prog 290 [4] 51 2 di0 [(4, some (2, true))] := tX Tryz.call290 follows Tryz.func290 rfl rfl (by decide) (by kernel_rfl) (by kernel_rfl)

def cx8 : AC := rdc (cO Tryz.prog [] 10 Tryz.f295) _ (by conv => lhs; reduce)
theorem bz0 : FnText Tryz.prog 295 [] 10 2 cx8 [(4, none)] := tX Tryz.call295 follows Tryz.func295 rfl rfl (by decide) (by kernel_rfl) (by kernel_rfl)

def cz1 : AC := rdc (cO Tryz.prog [] 14 Tryz.f296) _ (by conv => lhs; reduce)
theorem ca7 : FnText Tryz.prog 296 [] 14 3 cz1 [(6, none)] := tX Tryz.call296 follows Tryz.func296 rfl rfl (by decide) (by kernel_rfl) (by kernel_rfl)

def de0 : AC := rdc (cO Tryz.prog [] 14 Tryz.f297) _ (by conv => lhs; reduce)
theorem ch3 : FnText Tryz.prog 297 [] 14 3 de0 [(6, none)] := tX Tryz.call297 follows Tryz.func297 rfl rfl (by decide) (by kernel_rfl) (by kernel_rfl)

def dd7 : AC := rdc (cO Tryz.prog [] 27 Tryz.f298) _ (by conv => lhs; reduce)
theorem bq6 : FnText Tryz.prog 298 [] 27 3 dd7 [(6, none)] := tX Tryz.call298 follows Tryz.func298 rfl rfl (by decide) (by kernel_rfl) (by kernel_rfl)

def cx2 : AC := rdc (cO Tryz.prog [6] 99 Tryz.f291) _ (by conv => lhs; reduce)
theorem bz7 : FnText Tryz.prog 291 [6] 99 3 cx2 [(6, some (2, true))] := tX Tryz.call291 follows Tryz.func291 rfl rfl (by decide) (by kernel_rfl) (by kernel_rfl)

def dd5 : AC := rdc (cO Tryz.prog [] 13 Tryz.f299) _ (by conv => lhs; reduce)
theorem by0 : FnText Tryz.prog 299 [] 13 3 dd5 [(6, none)] := tX Tryz.call299 follows Tryz.func299 rfl rfl (by decide) (by kernel_rfl) (by kernel_rfl)

def cz0 : AC := rdc (cO Tryz.prog [] 13 Tryz.f300) _ (by conv => lhs; reduce)
theorem bu2 : FnText Tryz.prog 300 [] 13 3 cz0 [(6, none)] := tX Tryz.call300 follows Tryz.func300 rfl rfl (by decide) (by kernel_rfl) (by kernel_rfl)

def dd8 : AC := rdc (cO Tryz.prog [] 32 Tryz.f301) _ (by conv => lhs; reduce)
theorem cf8 : FnText Tryz.prog 301 [] 32 4 dd8 [(8, none), (9, none)] := tX Tryz.call301 follows Tryz.func301 rfl rfl (by decide) (by kernel_rfl) (by kernel_rfl)

def cv2 : AC := rdc (cO Tryz.prog [2] 6 Tryz.f302) _ (by conv => lhs; reduce)
theorem cb4 : FnText Tryz.prog 302 [2] 6 1 cv2 [(2, some (2, true))] := tX Tryz.call302 follows Tryz.func302 rfl rfl (by decide) (by kernel_rfl) (by kernel_rfl)

def dc0 : AC := rdc (cO Tryz.prog [8, 9] 38 Tryz.f188) _ (by conv => lhs; reduce)
theorem cc3 : FnText Tryz.prog 188 [8, 9] 38 4 dc0 [(8, some (4, true))] := tX Tryz.call188 follows Tryz.func188 rfl rfl (by decide) (by kernel_rfl) (by kernel_rfl)

def cw9 : AC := rdc (cO Tryz.prog [] 18 Tryz.f136) _ (by conv => lhs; reduce)
theorem br6 : FnText Tryz.prog 136 [] 18 2 cw9 [(4, none)] := tX Tryz.call136 follows Tryz.func136 rfl rfl (by decide) (by kernel_rfl) (by kernel_rfl)

def dh8 : AC := rdc (cO Tryz.prog [] 14 Tryz.f203) _ (by conv => lhs; reduce)
theorem cg0 : FnText Tryz.prog 203 [] 14 2 dh8 [(4, none)] := tX Tryz.call203 follows Tryz.func203 rfl rfl (by decide) (by kernel_rfl) (by kernel_rfl)

def de6 : AC := rdc (cO Tryz.prog [4] 19 Tryz.f233) _ (by conv => lhs; reduce)
theorem bs2 : FnText Tryz.prog 233 [4] 19 2 de6 [(4, some (2, true))] := tX Tryz.call233 follows Tryz.func233 rfl rfl (by decide) (by kernel_rfl) (by kernel_rfl)

def di2 : AC := rdc (cO Tryz.prog [4] 19 Tryz.f202) _ (by conv => lhs; reduce)
theorem bw3 : FnText Tryz.prog 202 [4] 19 2 di2 [(4, some (2, true))] := tX Tryz.call202 follows Tryz.func202 rfl rfl (by decide) (by kernel_rfl) (by kernel_rfl)

def di1 : AC := rdc (cO Tryz.prog [] 19 Tryz.f119) _ (by conv => lhs; reduce)
theorem ch5 : FnText Tryz.prog 119 [] 19 2 di1 [] := tX Tryz.call119 follows Tryz.func119 rfl rfl (by decide) (by kernel_rfl) (by kernel_rfl)

def df0 : AC := rdc (cO Tryz.prog [6] 11 Tryz.f190) _ (by conv => lhs; reduce)
theorem bz8 : FnText Tryz.prog 190 [6] 11 3 df0 [(6, some (4, true))] := tX Tryz.call190 follows Tryz.func190 rfl rfl (by decide) (by kernel_rfl) (by kernel_rfl)

def cw5 : AC := rdc (cO Tryz.prog [10, 11] 49 Tryz.f229) _ (by conv => lhs; reduce)
theorem cd5 : FnText Tryz.prog 229 [10, 11] 49 5 cw5 [(10, some (4, true))] := tX Tryz.call229 follows Tryz.func229 rfl rfl (by decide) (by kernel_rfl) (by kernel_rfl)

def cy9 : AC := rdc (cO Tryz.prog [] 13 Tryz.f274) _ (by conv => lhs; reduce)
theorem ca1 : FnText Tryz.prog 274 [] 13 2 cy9 [(4, none)] := tX Tryz.call274 follows Tryz.func274 rfl rfl (by decide) (by kernel_rfl) (by kernel_rfl)

def cw1 : AC := rdc (cO Tryz.prog [] 13 Tryz.f275) _ (by conv => lhs; reduce)
theorem bz3 : FnText Tryz.prog 275 [] 13 2 cw1 [(4, none)] := tX Tryz.call275 follows Tryz.func275 rfl rfl (by decide) (by kernel_rfl) (by kernel_rfl)

def dc1 : AC := rdc (cO Tryz.prog [] 19 Tryz.f120) _ (by conv => lhs; reduce)
theorem bt7 : FnText Tryz.prog 120 [] 19 2 dc1 [] := tX Tryz.call120 follows Tryz.func120 rfl rfl (by decide) (by kernel_rfl) (by kernel_rfl)

def da4 : AC := rdc (cO Tryz.prog [6] 11 Tryz.f191) _ (by conv => lhs; reduce)
theorem cg3 : FnText Tryz.prog 191 [6] 11 3 da4 [(6, some (4, true))] := tX Tryz.call191 follows Tryz.func191 rfl rfl (by decide) (by kernel_rfl) (by kernel_rfl)

def cw7 : AC := rdc (cO Tryz.prog [] 37 Tryz.f121) _ (by conv => lhs; reduce)
theorem ce2 : FnText Tryz.prog 121 [] 37 2 cw7 [] := tX Tryz.call121 follows Tryz.func121 rfl rfl (by decide) (by kernel_rfl) (by kernel_rfl)

def dg4 : AC := rdc (cO Tryz.prog [] 25 Tryz.f192) _ (by conv => lhs; reduce)
theorem bz9 : FnText Tryz.prog 192 [] 25 4 dg4 [(8, none)] := tX Tryz.call192 follows Tryz.func192 rfl rfl (by decide) (by kernel_rfl) (by kernel_rfl)

def dh4 : AC := rdc (cO Tryz.prog [] 45 Tryz.f230) _ (by conv => lhs; reduce)
theorem bx7 : FnText Tryz.prog 230 [] 45 3 dh4 [(6, none)] := tX Tryz.call230 follows Tryz.func230 rfl rfl (by decide) (by kernel_rfl) (by kernel_rfl)

def dh5 : AC := rdc (cO Tryz.prog [] 27 Tryz.f122) _ (by conv => lhs; reduce)
theorem bp7 : FnText Tryz.prog 122 [] 27 2 dh5 [] := tX Tryz.call122 follows Tryz.func122 rfl rfl (by decide) (by kernel_rfl) (by kernel_rfl)

def cv7 : AC := rdc (cO Tryz.prog [] 48 Tryz.f193) _ (by conv => lhs; reduce)
theorem bp9 : FnText Tryz.prog 193 [] 48 5 cv7 [(10, none)] := tX Tryz.call193 follows Tryz.func193 rfl rfl (by decide) (by kernel_rfl) (by kernel_rfl)

def cj6 : AC := rdc (cO Tryz.prog [] 30 Tryz.f231) _ (by conv => lhs; reduce)
def dh2 : AC := rdc (lP 0 cj6) _ (by conv => lhs; reduce)
theorem bt4 : FnText Tryz.prog 231 [] 30 1 cj6 [(2, none)] := tX Tryz.call231 follows Tryz.func231 rfl rfl (by decide) (by kernel_rfl) (by kernel_rfl)

def dd2 : AC := rdc (cO Tryz.prog [] 8 Tryz.f205) _ (by conv => lhs; reduce)
theorem cb9 : FnText Tryz.prog 205 [] 8 1 dd2 [(2, none)] := tX Tryz.call205 follows Tryz.func205 rfl rfl (by decide) (by kernel_rfl) (by kernel_rfl)

def dh3 : AC := rdc (cO Tryz.prog [] 19 Tryz.f242) _ (by conv => lhs; reduce)
theorem bs4 : FnText Tryz.prog 242 [] 19 1 dh3 [(2, none)] := tX Tryz.call242 follows Tryz.func242 rfl rfl (by decide) (by kernel_rfl) (by kernel_rfl)

def cx3 : AC := rdc (cO Tryz.prog [] 25 Tryz.f243) _ (by conv => lhs; reduce)
theorem cf5 : FnText Tryz.prog 243 [] 25 1 cx3 [(2, none)] := tX Tryz.call243 follows Tryz.func243 rfl rfl (by decide) (by kernel_rfl) (by kernel_rfl)

def ch6 : AC := rdc (cO Tryz.prog [] 148 Tryz.f204) _ (by conv => lhs; reduce)
def dh6 : AC := rdc (lP 0 ch6) _ (by conv => lhs; reduce)
theorem bu0 : FnText Tryz.prog 204 [] 148 5 ch6 [] := tX Tryz.call204 follows Tryz.func204 rfl rfl (by decide) (by kernel_rfl) (by kernel_rfl)

def bn3 : AC := rdc (cO Tryz.prog [] 53 Tryz.f234) _ (by conv => lhs; reduce)
def df3 : AC := rdc (lP 0 bn3) _ (by conv => lhs; reduce)
def df4 : AC := rdc (lP 1 bn3) _ (by conv => lhs; reduce)
theorem bz1 : FnText Tryz.prog 234 [] 53 4 bn3 [] := tX Tryz.call234 follows Tryz.func234 rfl rfl (by decide) (by kernel_rfl) (by kernel_rfl)

def cj0 : AC := rdc (cO Tryz.prog [] 134 Tryz.f207) _ (by conv => lhs; reduce)
def cv1 : AC := rdc (lP 0 cj0) _ (by conv => lhs; reduce)
theorem by3 : FnText Tryz.prog 207 [] 134 4 cj0 [] := tX Tryz.call207 follows Tryz.func207 rfl rfl (by decide) (by kernel_rfl) (by kernel_rfl)

def bf3 : AC := rdc (cO Tryz.prog [] 49 Tryz.f244) _ (by conv => lhs; reduce)
def cx5 : AC := rdc (lP 0 bf3) _ (by conv => lhs; reduce)
def dc4 : AC := rdc (lP 1 bf3) _ (by conv => lhs; reduce)
theorem ca5 : FnText Tryz.prog 244 [] 49 3 bf3 [] := tX Tryz.call244 follows Tryz.func244 rfl rfl (by decide) (by kernel_rfl) (by kernel_rfl)

def dc2 : AC := rdc (cO Tryz.prog [] 17 Tryz.f250) _ (by conv => lhs; reduce)
theorem bx6 : FnText Tryz.prog 250 [] 17 2 dc2 [(4, none)] := tX Tryz.call250 follows Tryz.func250 rfl rfl (by decide) (by kernel_rfl) (by kernel_rfl)

def df8 : AC := rdc (cO Tryz.prog [] 26 Tryz.f51) _ (by conv => lhs; reduce)
def di8 : AC := rdc (lP 0 df8) _ (by conv => lhs; reduce)
theorem cr7 : FnText Tryz.prog 51 [] 26 2 df8 [(4, none)] := tX Tryz.call51 follows Tryz.func51 rfl rfl (by decide) (by kernel_rfl) (by kernel_rfl)

def cq6 : AC := rdc (cO Tryz.prog [] 35 Tryz.f110) _ (by conv => lhs; reduce)
theorem bk3 : FnText Tryz.prog 110 [] 35 1 cq6 [(2, none), (3, none), (4, none)] := tX Tryz.call110 follows Tryz.func110 rfl rfl (by decide) (by kernel_rfl) (by kernel_rfl)

def bn5 : AC := rdc (cO Tryz.prog [2, 3, 1000003] 36 Tryz.f116) _ (by conv => lhs; reduce)
def cu0 : AC := rdc (lP 0 bn5) _ (by conv => lhs; reduce)
theorem bf2 : FnText Tryz.prog 116 [2, 3, 1000003] 36 1 bn5 [(2, some (4, true))] := tX Tryz.call116 follows Tryz.func116 rfl rfl (by decide) (by kernel_rfl) (by kernel_rfl)

end Go.Proofs.YtmonnlkagniolaaGreat
