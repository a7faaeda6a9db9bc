/-
 The text of each function of this seat, as the plain library tells it; each by the kernel's own reckoning from the program.
-/
import Derived.Test.YtmonnlkagniolaaGreatPbV
import Derived.Test.YtmonnlkagniolaaGreatRows
set_option linter.unusedVariables false
set_option maxRecDepth 100000
namespace Go.Proofs.YtmonnlkagniolaaGreat
open Go Go.Pb
abbrev q_ (d : Nat) (o : AOp) : AOper := ⟨some d, o, none, false⟩
abbrev t_ (n : Nat) : Operand := .tmp n
abbrev k_ (i : Int) : Operand := .const (.int .i64 i)
abbrev m_ (d n : Nat) : AOper := ⟨some d, .move (.tmp n), none, false⟩
abbrev l_ (d n : Nat) : AOper := ⟨some d, .load 1 false (.tmp n), none, false⟩
abbrev f_ (d a n : Nat) : AOper := ⟨some d, .faddr a 1 false (.tmp n), none, false⟩
abbrev n_ (d a n : Nat) : AOper := ⟨some d, .bi .len [a].toArray 3 [.tmp n], none, false⟩
abbrev r_ (l : List AOper) : AC := .region false l
abbrev z_ : Operand := .const (.slice none 0 0)
theorem follows : Tryz.prog.follows .mixedOrders = true := by kernel_rfl
def by0 : AC := rdc (cO Tryz.prog [] 120 Tryz.f33) _ (by conv => lhs; reduce)
def cp3 : AC := rdc (lP 0 by0) _ (by conv => lhs; reduce)
def cf7 : AC := rdc (lP 1 by0) _ (by conv => lhs; reduce)
def ci5 : AC := rdc (lP 2 by0) _ (by conv => lhs; reduce)
def cp2 : AC := rdc (lP 3 by0) _ (by conv => lhs; reduce)
theorem de0 : FnText Tryz.prog 33 [] 120 1 by0 [(2, none)] := tX Tryz.call33 follows Tryz.func33 rfl rfl (by decide) (by kernel_rfl) (by kernel_rfl)

def dj1 : AC := rdc (cO Tryz.prog [] 52 Tryz.f82) _ (by conv => lhs; reduce)
def ck3 : AC := rdc (lP 0 dj1) _ (by conv => lhs; reduce)
theorem dg1 : FnText Tryz.prog 82 [] 52 2 dj1 [(4, none)] := tX Tryz.call82 follows Tryz.func82 rfl rfl (by decide) (by kernel_rfl) (by kernel_rfl)

def dx9 : AC := rdc (cO Tryz.prog [] 63 Tryz.f84) _ (by conv => lhs; reduce)
theorem cy4 : FnText Tryz.prog 84 [] 63 2 dx9 [(4, none)] := tX Tryz.call84 follows Tryz.func84 rfl rfl (by decide) (by kernel_rfl) (by kernel_rfl)

def ds0 : AC := rdc (cO Tryz.prog [] 18 Tryz.f83) _ (by conv => lhs; reduce)
def ch6 : AC := rdc (lP 0 ds0) _ (by conv => lhs; reduce)
theorem da7 : FnText Tryz.prog 83 [] 18 2 ds0 [(4, none)] := tX Tryz.call83 follows Tryz.func83 rfl rfl (by decide) (by kernel_rfl) (by kernel_rfl)

def bn9 : AC := rdc (cO Tryz.prog [] 98 Tryz.f21) _ (by conv => lhs; reduce)
def cl5 : AC := rdc (lP 0 bn9) _ (by conv => lhs; reduce)
def cu7 : AC := rdc (lP 1 bn9) _ (by conv => lhs; reduce)
def cs3 : AC := rdc (lP 2 bn9) _ (by conv => lhs; reduce)
def ch7 : AC := rdc (lP 3 bn9) _ (by conv => lhs; reduce)
def cj8 : AC := rdc (lP 4 bn9) _ (by conv => lhs; reduce)
theorem df0 : FnText Tryz.prog 21 [] 98 2 bn9 [(4, none)] := tX Tryz.call21 follows Tryz.func21 rfl rfl (by decide) (by kernel_rfl) (by kernel_rfl)

def dm4 : AC := rdc (cO Tryz.prog [] 13 Tryz.f162) _ (by conv => lhs; reduce)
theorem cp7 : FnText Tryz.prog 162 [] 13 1 dm4 [(2, none)] := tX Tryz.call162 follows Tryz.func162 rfl rfl (by decide) (by kernel_rfl) (by kernel_rfl)

def bg5 : AC := rdc (cO Tryz.prog [] 62 Tryz.f123) _ (by conv => lhs; reduce)
def bs7 : AC := rdc (lP 0 bg5) _ (by conv => lhs; reduce)
def cb6 : AC := rdc (lP 1 bg5) _ (by conv => lhs; reduce)
def ce0 : AC := rdc (lP 2 bg5) _ (by conv => lhs; reduce)
theorem co2 : FnText Tryz.prog 123 [] 62 2 bg5 [(4, none)] := tX Tryz.call123 follows Tryz.func123 rfl rfl (by decide) (by kernel_rfl) (by kernel_rfl)

def dx6 : AC := rdc (cO Tryz.prog [] 17 Tryz.f47) _ (by conv => lhs; reduce)
theorem cy7 : FnText Tryz.prog 47 [] 17 1 dx6 [(2, none)] := tX Tryz.call47 follows Tryz.func47 rfl rfl (by decide) (by kernel_rfl) (by kernel_rfl)

def dy0 : AC := rdc (cO Tryz.prog [1, 2, 3] 133 Tryz.f34) _ (by conv => lhs; reduce)
theorem dg8 : FnText Tryz.prog 34 [1, 2, 3] 133 0 dy0 [(0, none)] := tX Tryz.call34 follows Tryz.func34 rfl rfl (by decide) (by kernel_rfl) (by kernel_rfl)

def bx5 : AC := rdc (cO Tryz.prog [] 17 Tryz.f185) _ (by conv => lhs; reduce)
def as6 : AC := rdc (lP 0 bx5) _ (by conv => lhs; reduce)
theorem ar1 : FnText Tryz.prog 185 [] 17 1 bx5 [(2, none)] := tX Tryz.call185 follows Tryz.func185 rfl rfl (by decide) (by kernel_rfl) (by kernel_rfl)

def ca9 : AC := rdc (cO Tryz.prog [] 17 Tryz.f186) _ (by conv => lhs; reduce)
def aw9 : AC := rdc (lP 0 ca9) _ (by conv => lhs; reduce)
theorem aq6 : FnText Tryz.prog 186 [] 17 1 ca9 [(2, none)] := tX Tryz.call186 follows Tryz.func186 rfl rfl (by decide) (by kernel_rfl) (by kernel_rfl)

def ce4 : AC := rdc (cO Tryz.prog [] 17 Tryz.f187) _ (by conv => lhs; reduce)
def ax1 : AC := rdc (lP 0 ce4) _ (by conv => lhs; reduce)
theorem aq3 : FnText Tryz.prog 187 [] 17 1 ce4 [(2, none)] := tX Tryz.call187 follows Tryz.func187 rfl rfl (by decide) (by kernel_rfl) (by kernel_rfl)

def cw6 : AC := rdc (cO Tryz.prog [2, 3, 1000003] 36 Tryz.f116) _ (by conv => lhs; reduce)
def bx4 : AC := rdc (lP 0 cw6) _ (by conv => lhs; reduce)
theorem bd3 : FnText Tryz.prog 116 [2, 3, 1000003] 36 1 cw6 [(2, some (4, true))] := tX Tryz.call116 follows Tryz.func116 rfl rfl (by decide) (by kernel_rfl) (by kernel_rfl)

def ds1 : AC := rdc (cO Tryz.prog [4] 19 Tryz.f233) _ (by conv => lhs; reduce)
theorem bd6 : FnText Tryz.prog 233 [4] 19 2 ds1 [(4, some (2, true))] := tX Tryz.call233 follows Tryz.func233 rfl rfl (by decide) (by kernel_rfl) (by kernel_rfl)

def dq9 : AC := rdc (cO Tryz.prog [] 14 Tryz.f203) _ (by conv => lhs; reduce)
theorem bj4 : FnText Tryz.prog 203 [] 14 2 dq9 [(4, none)] := tX Tryz.call203 follows Tryz.func203 rfl rfl (by decide) (by kernel_rfl) (by kernel_rfl)

def dj3 : AC := rdc (cO Tryz.prog [4] 19 Tryz.f202) _ (by conv => lhs; reduce)
theorem bh1 : FnText Tryz.prog 202 [4] 19 2 dj3 [(4, some (2, true))] := tX Tryz.call202 follows Tryz.func202 rfl rfl (by decide) (by kernel_rfl) (by kernel_rfl)

def cv2 : AC := rdc (cO Tryz.prog [] 18 Tryz.f181) _ (by conv => lhs; reduce)
def by7 : AC := rdc (lP 0 cv2) _ (by conv => lhs; reduce)
theorem bl1 : FnText Tryz.prog 181 [] 18 1 cv2 [(2, none)] := tX Tryz.call181 follows Tryz.func181 rfl rfl (by decide) (by kernel_rfl) (by kernel_rfl)

def dm0 : AC := rdc (cO Tryz.prog [] 10 Tryz.f182) _ (by conv => lhs; reduce)
theorem bm5 : FnText Tryz.prog 182 [] 10 1 dm0 [(2, none)] := tX Tryz.call182 follows Tryz.func182 rfl rfl (by decide) (by kernel_rfl) (by kernel_rfl)

def dw4 : AC := rdc (cO Tryz.prog [] 18 Tryz.f136) _ (by conv => lhs; reduce)
theorem bf6 : FnText Tryz.prog 136 [] 18 2 dw4 [(4, none)] := tX Tryz.call136 follows Tryz.func136 rfl rfl (by decide) (by kernel_rfl) (by kernel_rfl)

def dt8 : AC := rdc (cO Tryz.prog [] 13 Tryz.f270) _ (by conv => lhs; reduce)
theorem bh4 : FnText Tryz.prog 270 [] 13 2 dt8 [(4, none)] := tX Tryz.call270 follows Tryz.func270 rfl rfl (by decide) (by kernel_rfl) (by kernel_rfl)

def dp4 : AC := rdc (cO Tryz.prog [] 19 Tryz.f271) _ (by conv => lhs; reduce)
theorem aq9 : FnText Tryz.prog 271 [] 19 2 dp4 [(4, none)] := tX Tryz.call271 follows Tryz.func271 rfl rfl (by decide) (by kernel_rfl) (by kernel_rfl)

def dj4 : AC := rdc (cO Tryz.prog [] 19 Tryz.f272) _ (by conv => lhs; reduce)
theorem bf4 : FnText Tryz.prog 272 [] 19 2 dj4 [(4, none)] := tX Tryz.call272 follows Tryz.func272 rfl rfl (by decide) (by kernel_rfl) (by kernel_rfl)

def cw5 : AC := rdc (cO Tryz.prog [] 36 Tryz.f227) _ (by conv => lhs; reduce)
theorem aq1 : FnText Tryz.prog 227 [] 36 2 cw5 [(4, none), (5, none)] := tX Tryz.call227 follows Tryz.func227 rfl rfl (by decide) (by kernel_rfl) (by kernel_rfl)

def dk8 : AC := rdc (cO Tryz.prog [8, 9] 38 Tryz.f188) _ (by conv => lhs; reduce)
theorem bg6 : FnText Tryz.prog 188 [8, 9] 38 4 dk8 [(8, some (4, true))] := tX Tryz.call188 follows Tryz.func188 rfl rfl (by decide) (by kernel_rfl) (by kernel_rfl)

def cw0 : AC := rdc (cO Tryz.prog [] 30 Tryz.f117) _ (by conv => lhs; reduce)
def dn1 : AC := rdc (lP 0 cw0) _ (by conv => lhs; reduce)
theorem bm3 : FnText Tryz.prog 117 [] 30 1 cw0 [(2, none)] := tX Tryz.call117 follows Tryz.func117 rfl rfl (by decide) (by kernel_rfl) (by kernel_rfl)

def do2 : AC := rdc (cO Tryz.prog [] 17 Tryz.f221) _ (by conv => lhs; reduce)
theorem bj1 : FnText Tryz.prog 221 [] 17 1 do2 [(2, none)] := tX Tryz.call221 follows Tryz.func221 rfl rfl (by decide) (by kernel_rfl) (by kernel_rfl)

def cx6 : AC := rdc (cO Tryz.prog [] 20 Tryz.f222) _ (by conv => lhs; reduce)
def cb3 : AC := rdc (lP 0 cx6) _ (by conv => lhs; reduce)
theorem bd1 : FnText Tryz.prog 222 [] 20 2 cx6 [(4, none)] := tX Tryz.call222 follows Tryz.func222 rfl rfl (by decide) (by kernel_rfl) (by kernel_rfl)

def dm9 : AC := rdc (cO Tryz.prog [] 9 Tryz.f224) _ (by conv => lhs; reduce)
theorem bk8 : FnText Tryz.prog 224 [] 9 1 dm9 [(2, none)] := tX Tryz.call224 follows Tryz.func224 rfl rfl (by decide) (by kernel_rfl) (by kernel_rfl)

def dl3 : AC := rdc (cO Tryz.prog [] 13 Tryz.f223) _ (by conv => lhs; reduce)
theorem bm7 : FnText Tryz.prog 223 [] 13 1 dl3 [(2, none)] := tX Tryz.call223 follows Tryz.func223 rfl rfl (by decide) (by kernel_rfl) (by kernel_rfl)

def dl1 : AC := rdc (cO Tryz.prog [] 22 Tryz.f169) _ (by conv => lhs; reduce)
theorem be3 : FnText Tryz.prog 169 [] 22 1 dl1 [(2, none)] := tX Tryz.call169 follows Tryz.func169 rfl rfl (by decide) (by kernel_rfl) (by kernel_rfl)

def ds9 : AC := rdc (cO Tryz.prog [] 9 Tryz.f171) _ (by conv => lhs; reduce)
theorem bh9 : FnText Tryz.prog 171 [] 9 2 ds9 [(3, none)] := tX Tryz.call171 follows Tryz.func171 rfl rfl (by decide) (by kernel_rfl) (by kernel_rfl)

def cv8 : AC := rdc (cO Tryz.prog [] 19 Tryz.f225) _ (by conv => lhs; reduce)
def ca3 : AC := rdc (lP 0 cv8) _ (by conv => lhs; reduce)
theorem be4 : FnText Tryz.prog 225 [] 19 2 cv8 [(4, none)] := tX Tryz.call225 follows Tryz.func225 rfl rfl (by decide) (by kernel_rfl) (by kernel_rfl)

def dn5 : AC := rdc (cO Tryz.prog [] 9 Tryz.f170) _ (by conv => lhs; reduce)
theorem bd5 : FnText Tryz.prog 170 [] 9 2 dn5 [(4, none)] := tX Tryz.call170 follows Tryz.func170 rfl rfl (by decide) (by kernel_rfl) (by kernel_rfl)

def cv9 : AC := rdc (cO Tryz.prog [4] 51 Tryz.f103) _ (by conv => lhs; reduce)
def cb0 : AC := rdc (lP 0 cv9) _ (by conv => lhs; reduce)
theorem bc5 : FnText Tryz.prog 103 [4] 51 1 cv9 [(2, none)] := tX Tryz.call103 follows Tryz.func103 rfl rfl (by decide) (by kernel_rfl) (by kernel_rfl)

def du8 : AC := rdc (cO Tryz.prog [] 46 Tryz.f172) _ (by conv => lhs; reduce)
theorem bg9 : FnText Tryz.prog 172 [] 46 2 du8 [(4, none), (5, none)] := tX Tryz.call172 follows Tryz.func172 rfl rfl (by decide) (by kernel_rfl) (by kernel_rfl)

def dt6 : AC := rdc (cO Tryz.prog [] 25 Tryz.f267) _ (by conv => lhs; reduce)
theorem bn5 : FnText Tryz.prog 267 [] 25 1 dt6 [(2, none)] := tX Tryz.call267 follows Tryz.func267 rfl rfl (by decide) (by kernel_rfl) (by kernel_rfl)

def dm8 : AC := rdc (cO Tryz.prog [] 11 Tryz.f287) _ (by conv => lhs; reduce)
theorem bc4 : FnText Tryz.prog 287 [] 11 1 dm8 [(2, none), (3, none)] := tX Tryz.call287 follows Tryz.func287 rfl rfl (by decide) (by kernel_rfl) (by kernel_rfl)

def cy1 : AC := rdc (cO Tryz.prog [6] 45 Tryz.f288) _ (by conv => lhs; reduce)
theorem bb9 : FnText Tryz.prog 288 [6] 45 3 cy1 [(6, some (2, true)), (7, none)] := tX Tryz.call288 follows Tryz.func288 rfl rfl (by decide) (by kernel_rfl) (by kernel_rfl)

def dv4 : AC := rdc (cO Tryz.prog [8] 90 Tryz.f268) _ (by conv => lhs; reduce)
theorem bm1 : FnText Tryz.prog 268 [8] 90 2 dv4 [(4, none), (5, none)] := tX Tryz.call268 follows Tryz.func268 rfl rfl (by decide) (by kernel_rfl) (by kernel_rfl)

def dr2 : AC := rdc (cO Tryz.prog [] 91 Tryz.f269) _ (by conv => lhs; reduce)
theorem bg2 : FnText Tryz.prog 269 [] 91 2 dr2 [(4, none), (5, none)] := tX Tryz.call269 follows Tryz.func269 rfl rfl (by decide) (by kernel_rfl) (by kernel_rfl)

def cx5 : AC := rdc (cO Tryz.prog [10] 73 Tryz.f226) _ (by conv => lhs; reduce)
def bu6 : AC := rdc (lP 0 cx5) _ (by conv => lhs; reduce)
theorem bg7 : FnText Tryz.prog 226 [10] 73 3 cx5 [(6, none), (7, none), (8, none)] := tX Tryz.call226 follows Tryz.func226 rfl rfl (by decide) (by kernel_rfl) (by kernel_rfl)

def dk1 : AC := rdc (cO Tryz.prog [] 27 Tryz.f174) _ (by conv => lhs; reduce)
theorem bi4 : FnText Tryz.prog 174 [] 27 2 dk1 [(4, none), (5, none)] := tX Tryz.call174 follows Tryz.func174 rfl rfl (by decide) (by kernel_rfl) (by kernel_rfl)

def dl6 : AC := rdc (cO Tryz.prog [] 24 Tryz.f173) _ (by conv => lhs; reduce)
theorem bg8 : FnText Tryz.prog 173 [] 24 3 dl6 [(6, none)] := tX Tryz.call173 follows Tryz.func173 rfl rfl (by decide) (by kernel_rfl) (by kernel_rfl)

def dq6 : AC := rdc (cO Tryz.prog [5] 105 Tryz.f104) _ (by conv => lhs; reduce)
theorem bn1 : FnText Tryz.prog 104 [5] 105 2 dq6 [(4, none)] := tX Tryz.call104 follows Tryz.func104 rfl rfl (by decide) (by kernel_rfl) (by kernel_rfl)

def dr5 : AC := rdc (cO Tryz.prog [6, 7, 9] 50 Tryz.f35) _ (by conv => lhs; reduce)
def cs6 : AC := rdc (lP 0 dr5) _ (by conv => lhs; reduce)
theorem cc4 : FnText Tryz.prog 35 [6, 7, 9] 50 2 dr5 [(4, none), (5, none)] := tX Tryz.call35 follows Tryz.func35 rfl rfl (by decide) (by kernel_rfl) (by kernel_rfl)

def dv9 : AC := rdc (cO Tryz.prog [] 14 Tryz.f114) _ (by conv => lhs; reduce)
theorem bi3 : FnText Tryz.prog 114 [] 14 2 dv9 [(4, none)] := tX Tryz.call114 follows Tryz.func114 rfl rfl (by decide) (by kernel_rfl) (by kernel_rfl)

def do0 : AC := rdc (cO Tryz.prog [] 49 Tryz.f41) _ (by conv => lhs; reduce)
def ck2 : AC := rdc (lP 0 do0) _ (by conv => lhs; reduce)
theorem ce1 : FnText Tryz.prog 41 [] 49 2 do0 [(4, none)] := tX Tryz.call41 follows Tryz.func41 rfl rfl (by decide) (by kernel_rfl) (by kernel_rfl)

def dt1 : AC := rdc (cO Tryz.prog [] 20 Tryz.f294) _ (by conv => lhs; reduce)
theorem bd4 : FnText Tryz.prog 294 [] 20 2 dt1 [(4, none)] := tX Tryz.call294 follows Tryz.func294 rfl rfl (by decide) (by kernel_rfl) (by kernel_rfl)

def dm7 : AC := rdc (cO Tryz.prog [4] 82 Tryz.f289) _ (by conv => lhs; reduce)
theorem bl9 : FnText Tryz.prog 289 [4] 82 2 dm7 [(4, some (2, true))] := tX Tryz.call289 follows Tryz.func289 rfl rfl (by decide) (by kernel_rfl) (by kernel_rfl)

def do1 : AC := rdc (cO Tryz.prog [] 10 Tryz.f295) _ (by conv => lhs; reduce)
theorem bl4 : FnText Tryz.prog 295 [] 10 2 do1 [(4, none)] := tX Tryz.call295 follows Tryz.func295 rfl rfl (by decide) (by kernel_rfl) (by kernel_rfl)

def dp6 : AC := rdc (cO Tryz.prog [] 14 Tryz.f296) _ (by conv => lhs; reduce)
theorem bg1 : FnText Tryz.prog 296 [] 14 3 dp6 [(6, none)] := tX Tryz.call296 follows Tryz.func296 rfl rfl (by decide) (by kernel_rfl) (by kernel_rfl)

def dm6 : AC := rdc (cO Tryz.prog [] 14 Tryz.f297) _ (by conv => lhs; reduce)
theorem bn0 : FnText Tryz.prog 297 [] 14 3 dm6 [(6, none)] := tX Tryz.call297 follows Tryz.func297 rfl rfl (by decide) (by kernel_rfl) (by kernel_rfl)

def dk4 : AC := rdc (cO Tryz.prog [] 27 Tryz.f298) _ (by conv => lhs; reduce)
theorem bh8 : FnText Tryz.prog 298 [] 27 3 dk4 [(6, none)] := tX Tryz.call298 follows Tryz.func298 rfl rfl (by decide) (by kernel_rfl) (by kernel_rfl)

def du4 : AC := rdc (cO Tryz.prog [4] 51 Tryz.f290) _ (by conv => lhs; reduce)
theorem bf8 : FnText Tryz.prog 290 [4] 51 2 du4 [(4, some (2, true))] := tX Tryz.call290 follows Tryz.func290 rfl rfl (by decide) (by kernel_rfl) (by kernel_rfl)

def dl0 : AC := rdc (cO Tryz.prog [] 13 Tryz.f299) _ (by conv => lhs; reduce)
theorem bd7 : FnText Tryz.prog 299 [] 13 3 dl0 [(6, none)] := tX Tryz.call299 follows Tryz.func299 rfl rfl (by decide) (by kernel_rfl) (by kernel_rfl)

def dr9 : AC := rdc (cO Tryz.prog [] 13 Tryz.f300) _ (by conv => lhs; reduce)
theorem bk4 : FnText Tryz.prog 300 [] 13 3 dr9 [(6, none)] := tX Tryz.call300 follows Tryz.func300 rfl rfl (by decide) (by kernel_rfl) (by kernel_rfl)

def dl8 : AC := rdc (cO Tryz.prog [] 32 Tryz.f301) _ (by conv => lhs; reduce)
theorem bk1 : FnText Tryz.prog 301 [] 32 4 dl8 [(8, none), (9, none)] := tX Tryz.call301 follows Tryz.func301 rfl rfl (by decide) (by kernel_rfl) (by kernel_rfl)

def dk7 : AC := rdc (cO Tryz.prog [2] 6 Tryz.f302) _ (by conv => lhs; reduce)
theorem bj2 : FnText Tryz.prog 302 [2] 6 1 dk7 [(2, some (2, true))] := tX Tryz.call302 follows Tryz.func302 rfl rfl (by decide) (by kernel_rfl) (by kernel_rfl)

def dw5 : AC := rdc (cO Tryz.prog [6] 99 Tryz.f291) _ (by conv => lhs; reduce)
theorem be7 : FnText Tryz.prog 291 [6] 99 3 dw5 [(6, some (2, true))] := tX Tryz.call291 follows Tryz.func291 rfl rfl (by decide) (by kernel_rfl) (by kernel_rfl)

def du5 : AC := rdc (cO Tryz.prog [2, 3, 4, 5, 6, 7, 8, 1000000] 62 Tryz.f273) _ (by conv => lhs; reduce)
theorem bh6 : FnText Tryz.prog 273 [2, 3, 4, 5, 6, 7, 8, 1000000] 62 1 du5 [(2, some (2, true))] := tX Tryz.call273 follows Tryz.func273 rfl rfl (by decide) (by kernel_rfl) (by kernel_rfl)

def dk5 : AC := rdc (cO Tryz.prog [11] 27 Tryz.f228) _ (by conv => lhs; reduce)
theorem bl2 : FnText Tryz.prog 228 [11] 27 4 dk5 [(8, none)] := tX Tryz.call228 follows Tryz.func228 rfl rfl (by decide) (by kernel_rfl) (by kernel_rfl)

def dk6 : AC := rdc (cO Tryz.prog [] 19 Tryz.f189) _ (by conv => lhs; reduce)
theorem bi1 : FnText Tryz.prog 189 [] 19 2 dk6 [(4, none)] := tX Tryz.call189 follows Tryz.func189 rfl rfl (by decide) (by kernel_rfl) (by kernel_rfl)

def do8 : AC := rdc (cO Tryz.prog [] 23 Tryz.f118) _ (by conv => lhs; reduce)
theorem bj7 : FnText Tryz.prog 118 [] 23 2 do8 [] := tX Tryz.call118 follows Tryz.func118 rfl rfl (by decide) (by kernel_rfl) (by kernel_rfl)

def di6 : AC := rdc (cO Tryz.prog [] 13 Tryz.f274) _ (by conv => lhs; reduce)
theorem bj9 : FnText Tryz.prog 274 [] 13 2 di6 [(4, none)] := tX Tryz.call274 follows Tryz.func274 rfl rfl (by decide) (by kernel_rfl) (by kernel_rfl)

def do7 : AC := rdc (cO Tryz.prog [] 13 Tryz.f275) _ (by conv => lhs; reduce)
theorem bj6 : FnText Tryz.prog 275 [] 13 2 do7 [(4, none)] := tX Tryz.call275 follows Tryz.func275 rfl rfl (by decide) (by kernel_rfl) (by kernel_rfl)

def du3 : AC := rdc (cO Tryz.prog [10, 11] 49 Tryz.f229) _ (by conv => lhs; reduce)
theorem bi2 : FnText Tryz.prog 229 [10, 11] 49 5 du3 [(10, some (4, true))] := tX Tryz.call229 follows Tryz.func229 rfl rfl (by decide) (by kernel_rfl) (by kernel_rfl)

def dp0 : AC := rdc (cO Tryz.prog [6] 11 Tryz.f190) _ (by conv => lhs; reduce)
theorem bb8 : FnText Tryz.prog 190 [6] 11 3 dp0 [(6, some (4, true))] := tX Tryz.call190 follows Tryz.func190 rfl rfl (by decide) (by kernel_rfl) (by kernel_rfl)

def dn7 : AC := rdc (cO Tryz.prog [] 19 Tryz.f119) _ (by conv => lhs; reduce)
theorem bm2 : FnText Tryz.prog 119 [] 19 2 dn7 [] := tX Tryz.call119 follows Tryz.func119 rfl rfl (by decide) (by kernel_rfl) (by kernel_rfl)

def dt9 : AC := rdc (cO Tryz.prog [6] 11 Tryz.f191) _ (by conv => lhs; reduce)
theorem bk3 : FnText Tryz.prog 191 [6] 11 3 dt9 [(6, some (4, true))] := tX Tryz.call191 follows Tryz.func191 rfl rfl (by decide) (by kernel_rfl) (by kernel_rfl)

def dq5 : AC := rdc (cO Tryz.prog [] 19 Tryz.f120) _ (by conv => lhs; reduce)
theorem bl0 : FnText Tryz.prog 120 [] 19 2 dq5 [] := tX Tryz.call120 follows Tryz.func120 rfl rfl (by decide) (by kernel_rfl) (by kernel_rfl)

def dt4 : AC := rdc (cO Tryz.prog [] 45 Tryz.f230) _ (by conv => lhs; reduce)
theorem bb7 : FnText Tryz.prog 230 [] 45 3 dt4 [(6, none)] := tX Tryz.call230 follows Tryz.func230 rfl rfl (by decide) (by kernel_rfl) (by kernel_rfl)

def dr0 : AC := rdc (cO Tryz.prog [] 25 Tryz.f192) _ (by conv => lhs; reduce)
theorem bk5 : FnText Tryz.prog 192 [] 25 4 dr0 [(8, none)] := tX Tryz.call192 follows Tryz.func192 rfl rfl (by decide) (by kernel_rfl) (by kernel_rfl)

def dp5 : AC := rdc (cO Tryz.prog [] 37 Tryz.f121) _ (by conv => lhs; reduce)
theorem bl6 : FnText Tryz.prog 121 [] 37 2 dp5 [] := tX Tryz.call121 follows Tryz.func121 rfl rfl (by decide) (by kernel_rfl) (by kernel_rfl)

def dj0 : AC := rdc (cO Tryz.prog [] 48 Tryz.f193) _ (by conv => lhs; reduce)
theorem bc2 : FnText Tryz.prog 193 [] 48 5 dj0 [(10, none)] := tX Tryz.call193 follows Tryz.func193 rfl rfl (by decide) (by kernel_rfl) (by kernel_rfl)

def dj8 : AC := rdc (cO Tryz.prog [] 27 Tryz.f122) _ (by conv => lhs; reduce)
theorem bm0 : FnText Tryz.prog 122 [] 27 2 dj8 [] := tX Tryz.call122 follows Tryz.func122 rfl rfl (by decide) (by kernel_rfl) (by kernel_rfl)

def dh6 : AC := rdc (cO Tryz.prog [8, 22, 13, 15] 94 Tryz.f44) _ (by conv => lhs; reduce)
def cu2 : AC := rdc (lP 0 dh6) _ (by conv => lhs; reduce)
theorem cc7 : FnText Tryz.prog 44 [8, 22, 13, 15] 94 4 dh6 [(8, some (4, true)), (9, none)] := tX Tryz.call44 follows Tryz.func44 rfl rfl (by decide) (by kernel_rfl) (by kernel_rfl)

def dr3 : AC := rdc (cO Tryz.prog [] 21 Tryz.f108) _ (by conv => lhs; reduce)
theorem bf7 : FnText Tryz.prog 108 [] 21 2 dr3 [(4, none)] := tX Tryz.call108 follows Tryz.func108 rfl rfl (by decide) (by kernel_rfl) (by kernel_rfl)

def dl5 : AC := rdc (cO Tryz.prog [] 6 Tryz.f206) _ (by conv => lhs; reduce)
theorem bd9 : FnText Tryz.prog 206 [] 6 1 dl5 [(2, none)] := tX Tryz.call206 follows Tryz.func206 rfl rfl (by decide) (by kernel_rfl) (by kernel_rfl)

def dq4 : AC := rdc (cO Tryz.prog [] 20 Tryz.f141) _ (by conv => lhs; reduce)
theorem bj3 : FnText Tryz.prog 141 [] 20 2 dq4 [(4, none)] := tX Tryz.call141 follows Tryz.func141 rfl rfl (by decide) (by kernel_rfl) (by kernel_rfl)

def cw2 : AC := rdc (cO Tryz.prog [] 18 Tryz.f140) _ (by conv => lhs; reduce)
def ce2 : AC := rdc (lP 0 cw2) _ (by conv => lhs; reduce)
theorem bi0 : FnText Tryz.prog 140 [] 18 1 cw2 [(2, none)] := tX Tryz.call140 follows Tryz.func140 rfl rfl (by decide) (by kernel_rfl) (by kernel_rfl)

def ds2 : AC := rdc (cO Tryz.prog [] 17 Tryz.f139) _ (by conv => lhs; reduce)
theorem ao2 : FnText Tryz.prog 139 [] 17 2 ds2 [(4, none)] := tX Tryz.call139 follows Tryz.func139 rfl rfl (by decide) (by kernel_rfl) (by kernel_rfl)

def dj2 : AC := rdc (cO Tryz.prog [] 17 Tryz.f179) _ (by conv => lhs; reduce)
theorem ar2 : FnText Tryz.prog 179 [] 17 2 dj2 [(4, none)] := tX Tryz.call179 follows Tryz.func179 rfl rfl (by decide) (by kernel_rfl) (by kernel_rfl)

def dj9 : AC := rdc (cO Tryz.prog [] 14 Tryz.f138) _ (by conv => lhs; reduce)
theorem ap3 : FnText Tryz.prog 138 [] 14 2 dj9 [] := tX Tryz.call138 follows Tryz.func138 rfl rfl (by decide) (by kernel_rfl) (by kernel_rfl)

def do6 : AC := rdc (cO Tryz.prog [] 11 Tryz.f143) _ (by conv => lhs; reduce)
theorem bd0 : FnText Tryz.prog 143 [] 11 1 do6 [] := tX Tryz.call143 follows Tryz.func143 rfl rfl (by decide) (by kernel_rfl) (by kernel_rfl)

def yv : AC :=
 .seq (.seq (r_ [m_ 29 5,
 m_ 30 4,
 n_ 31 75 30,
 q_ 32 (.bin .lss 3 (t_ 29) (t_ 31))])
 (.cond (t_ 32)
 (.skip)
 (.exit 2)))
 (.seq (.block 3 (.seq (.region true [m_ 35 4,
 m_ 36 5,
 q_ 37 (.iaddr 2 (t_ 35) (t_ 36)),
 q_ 38 (.load 2 true (t_ 37)),
 m_ 39 4,
 m_ 40 5,
 q_ 41 (.bin .sub 3 (t_ 40) (k_ 1)),
 q_ 42 (.iaddr 2 (t_ 39) (t_ 41)),
 q_ 43 (.load 2 true (t_ 42)),
 q_ 44 (.bin .neq 87 (t_ 38) (t_ 43))])
 (.cond (t_ 44)
 (.seq (r_ [m_ 45 0,
 m_ 46 3,
 m_ 47 4,
 m_ 48 5,
 q_ 49 (.iaddr 2 (t_ 47) (t_ 48)),
 q_ 50 (.load 2 true (t_ 49)),
 q_ 51 (.iaddr 2 (t_ 45) (t_ 46)),
 ⟨none, .store 2 (t_ 51) (t_ 50), none, false⟩])
 (r_ [m_ 52 3,
 q_ 53 (.bin .add 3 (t_ 52) (k_ 1)),
 m_ 3 53]))
 (.skip))))
 (r_ [m_ 33 5,
 q_ 34 (.bin .add 3 (t_ 33) (k_ 1)),
 m_ 5 34]))
def yi : AC :=
 .seq (.seq (r_ [m_ 10 3,
 m_ 11 0,
 n_ 12 75 11,
 q_ 13 (.bin .lss 3 (t_ 10) (t_ 12))])
 (.cond (t_ 13)
 (.skip)
 (.exit 0)))
 (.seq (.block 1 (.seq (.region true [m_ 16 0,
 m_ 17 3,
 q_ 18 (.iaddr 2 (t_ 16) (t_ 17)),
 q_ 19 (.load 2 true (t_ 18)),
 m_ 20 0,
 m_ 21 3,
 q_ 22 (.bin .sub 3 (t_ 21) (k_ 1)),
 q_ 23 (.iaddr 2 (t_ 20) (t_ 22)),
 q_ 24 (.load 2 true (t_ 23)),
 q_ 25 (.bin .eql 87 (t_ 19) (t_ 24))])
 (.cond (t_ 25)
 (.seq (r_ [m_ 26 0,
 m_ 27 3,
 (q_ 28 (.slice 75 2 (t_ 26) (some (t_ 27)) none none)),
 m_ 4 28])
 (.seq (.seq (r_ [q_ 5 (.move (k_ 1))])
 (.block 2 (.loop yv)))
 (.seq (r_ [m_ 54 0,
 m_ 55 3,
 (q_ 56 (.slice 75 2 (t_ 54) (some (t_ 55)) none none)),
 ⟨none, .clr 2 (.agg [(.int .i64 0), (.int .i64 0)].toArray) (t_ 56), none, false⟩])
 (.seq (r_ [m_ 57 0,
 m_ 58 3,
 (q_ 59 (.slice 75 2 (t_ 57) none (some (t_ 58)) none)),
 m_ 2 59])
 (.ret)))))
 (.skip))))
 (r_ [m_ 14 3,
 q_ 15 (.bin .add 3 (t_ 14) (k_ 1)),
 m_ 3 15]))
/-- slices.Compact[[]patchbay/api.FieldRef,patchbay/api.FieldRef] -/
def bu2 : AC :=
 .seq (r_ [q_ 2 (.move z_)])
 (.seq (.seq (r_ [m_ 6 0,
 n_ 7 75 6,
 q_ 8 (.bin .lss 3 (t_ 7) (k_ 2))])
 (.cond (t_ 8)
 (.seq (r_ [m_ 9 0,
 m_ 2 9])
 (.ret))
 (.skip)))
 (.seq (.seq (r_ [q_ 3 (.move (k_ 1))])
 (.block 0 (.loop yi)))
 (.seq (r_ [m_ 60 0,
 m_ 2 60])
 (.ret))))
theorem bi9 : FnText Tryz.prog 142 [] 61 1 bu2 [(2, none)] :=
 ⟨Tryz.call142, follows, Tryz.f142, _, Tryz.func142, rfl, rfl, by decide, by kernel_rfl, by kernel_rfl⟩

def ym : AC :=
 .seq (.seq (r_ [m_ 29 5,
 m_ 30 4,
 n_ 31 29 30,
 q_ 32 (.bin .lss 3 (t_ 29) (t_ 31))])
 (.cond (t_ 32)
 (.skip)
 (.exit 2)))
 (.seq (.block 3 (.seq (.region true [m_ 35 4,
 m_ 36 5,
 q_ 37 (.iaddr 1 (t_ 35) (t_ 36)),
 l_ 38 37,
 m_ 39 4,
 m_ 40 5,
 q_ 41 (.bin .sub 3 (t_ 40) (k_ 1)),
 q_ 42 (.iaddr 1 (t_ 39) (t_ 41)),
 l_ 43 42,
 q_ 44 (.bin .neq 3 (t_ 38) (t_ 43))])
 (.cond (t_ 44)
 (.seq (r_ [m_ 45 0,
 m_ 46 3,
 m_ 47 4,
 m_ 48 5,
 q_ 49 (.iaddr 1 (t_ 47) (t_ 48)),
 l_ 50 49,
 q_ 51 (.iaddr 1 (t_ 45) (t_ 46)),
 ⟨none, .store 1 (t_ 51) (t_ 50), none, false⟩])
 (r_ [m_ 52 3,
 q_ 53 (.bin .add 3 (t_ 52) (k_ 1)),
 m_ 3 53]))
 (.skip))))
 (r_ [m_ 33 5,
 q_ 34 (.bin .add 3 (t_ 33) (k_ 1)),
 m_ 5 34]))
def aa3 : AC :=
 .seq (.seq (r_ [m_ 10 3,
 m_ 11 0,
 n_ 12 29 11,
 q_ 13 (.bin .lss 3 (t_ 10) (t_ 12))])
 (.cond (t_ 13)
 (.skip)
 (.exit 0)))
 (.seq (.block 1 (.seq (.region true [m_ 16 0,
 m_ 17 3,
 q_ 18 (.iaddr 1 (t_ 16) (t_ 17)),
 l_ 19 18,
 m_ 20 0,
 m_ 21 3,
 q_ 22 (.bin .sub 3 (t_ 21) (k_ 1)),
 q_ 23 (.iaddr 1 (t_ 20) (t_ 22)),
 l_ 24 23,
 q_ 25 (.bin .eql 3 (t_ 19) (t_ 24))])
 (.cond (t_ 25)
 (.seq (r_ [m_ 26 0,
 m_ 27 3,
 (q_ 28 (.slice 29 1 (t_ 26) (some (t_ 27)) none none)),
 m_ 4 28])
 (.seq (.seq (r_ [q_ 5 (.move (k_ 1))])
 (.block 2 (.loop ym)))
 (.seq (r_ [m_ 54 0,
 m_ 55 3,
 (q_ 56 (.slice 29 1 (t_ 54) (some (t_ 55)) none none)),
 ⟨none, .clr 1 (.int .i64 0) (t_ 56), none, false⟩])
 (.seq (r_ [m_ 57 0,
 m_ 58 3,
 (q_ 59 (.slice 29 1 (t_ 57) none (some (t_ 58)) none)),
 m_ 2 59])
 (.ret)))))
 (.skip))))
 (r_ [m_ 14 3,
 q_ 15 (.bin .add 3 (t_ 14) (k_ 1)),
 m_ 3 15]))
/-- slices.Compact[[]int,int] -/
def bs0 : AC :=
 .seq (r_ [q_ 2 (.move z_)])
 (.seq (.seq (r_ [m_ 6 0,
 n_ 7 29 6,
 q_ 8 (.bin .lss 3 (t_ 7) (k_ 2))])
 (.cond (t_ 8)
 (.seq (r_ [m_ 9 0,
 m_ 2 9])
 (.ret))
 (.skip)))
 (.seq (.seq (r_ [q_ 3 (.move (k_ 1))])
 (.block 0 (.loop aa3)))
 (.seq (r_ [m_ 60 0,
 m_ 2 60])
 (.ret))))
theorem bl8 : FnText Tryz.prog 144 [] 61 1 bs0 [(2, none)] :=
 ⟨Tryz.call144, follows, Tryz.f144, _, Tryz.func144, rfl, rfl, by decide, by kernel_rfl, by kernel_rfl⟩

def dl2 : AC := rdc (cO Tryz.prog [1000000] 35 Tryz.f110) _ (by conv => lhs; reduce)
theorem ct9 : FnText Tryz.prog 110 [1000000] 35 1 dl2 [(2, none), (3, none), (4, none)] := tX Tryz.call110 follows Tryz.func110 rfl rfl (by decide) (by kernel_rfl) (by kernel_rfl)

def cj1 : AC := rdc (cO Tryz.prog [7, 9] 76 Tryz.f39) _ (by conv => lhs; reduce)
def cq3 : AC := rdc (lP 0 cj1) _ (by conv => lhs; reduce)
def cm5 : AC := rdc (lP 1 cj1) _ (by conv => lhs; reduce)
theorem cd4 : FnText Tryz.prog 39 [7, 9] 76 2 cj1 [(4, none), (5, none), (6, none)] := tX Tryz.call39 follows Tryz.func39 rfl rfl (by decide) (by kernel_rfl) (by kernel_rfl)

def dr1 : AC := rdc (cO Tryz.prog [] 18 Tryz.f48) _ (by conv => lhs; reduce)
def cp9 : AC := rdc (lP 0 dr1) _ (by conv => lhs; reduce)
theorem dg3 : FnText Tryz.prog 48 [] 18 2 dr1 [(4, none)] := tX Tryz.call48 follows Tryz.func48 rfl rfl (by decide) (by kernel_rfl) (by kernel_rfl)

def dl7 : AC := rdc (cO Tryz.prog [] 47 Tryz.f124) _ (by conv => lhs; reduce)
theorem cr2 : FnText Tryz.prog 124 [] 47 2 dl7 [(4, none)] := tX Tryz.call124 follows Tryz.func124 rfl rfl (by decide) (by kernel_rfl) (by kernel_rfl)

def dx7 : AC := rdc (cO Tryz.prog [] 21 Tryz.f93) _ (by conv => lhs; reduce)
theorem dc2 : FnText Tryz.prog 93 [] 21 2 dx7 [(4, none)] := tX Tryz.call93 follows Tryz.func93 rfl rfl (by decide) (by kernel_rfl) (by kernel_rfl)

def dy1 : AC := rdc (cO Tryz.prog [] 33 Tryz.f49) _ (by conv => lhs; reduce)
theorem da1 : FnText Tryz.prog 49 [] 33 2 dy1 [(4, none)] := tX Tryz.call49 follows Tryz.func49 rfl rfl (by decide) (by kernel_rfl) (by kernel_rfl)

def dn8 : AC := rdc (cO Tryz.prog [] 18 Tryz.f50) _ (by conv => lhs; reduce)
def ch2 : AC := rdc (lP 0 dn8) _ (by conv => lhs; reduce)
theorem dc3 : FnText Tryz.prog 50 [] 18 2 dn8 [(4, none)] := tX Tryz.call50 follows Tryz.func50 rfl rfl (by decide) (by kernel_rfl) (by kernel_rfl)

def dr8 : AC := rdc (cO Tryz.prog [] 26 Tryz.f51) _ (by conv => lhs; reduce)
def cg0 : AC := rdc (lP 0 dr8) _ (by conv => lhs; reduce)
theorem bt6 : FnText Tryz.prog 51 [] 26 2 dr8 [(4, none)] := tX Tryz.call51 follows Tryz.func51 rfl rfl (by decide) (by kernel_rfl) (by kernel_rfl)

def ac8 : AC := rdc (cO Tryz.prog [3, 9, 12] 182 Tryz.f8) _ (by conv => lhs; reduce)
def dh8 : AC := rdc (lP 0 ac8) _ (by conv => lhs; reduce)
def dd9 : AC := rdc (lP 1 ac8) _ (by conv => lhs; reduce)
def df4 : AC := rdc (lP 2 ac8) _ (by conv => lhs; reduce)
def dh0 : AC := rdc (lP 3 ac8) _ (by conv => lhs; reduce)
theorem ds8 : FnText Tryz.prog 8 [3, 9, 12] 182 1 ac8 [(2, none)] := tX Tryz.call8 follows Tryz.func8 rfl rfl (by decide) (by kernel_rfl) (by kernel_rfl)

def cd5 : AC := rdc (cO Tryz.prog [] 30 Tryz.f231) _ (by conv => lhs; reduce)
def bz2 : AC := rdc (lP 0 cd5) _ (by conv => lhs; reduce)
theorem bn3 : FnText Tryz.prog 231 [] 30 1 cd5 [(2, none)] := tX Tryz.call231 follows Tryz.func231 rfl rfl (by decide) (by kernel_rfl) (by kernel_rfl)

def dp2 : AC := rdc (cO Tryz.prog [0] 29 Tryz.f102) _ (by conv => lhs; reduce)
theorem cg4 : FnText Tryz.prog 102 [0] 29 0 dp2 [(0, some (9, true))] := tX Tryz.call102 follows Tryz.func102 rfl rfl (by decide) (by kernel_rfl) (by kernel_rfl)

def dm5 : AC := rdc (cO Tryz.prog [7, 9] 81 Tryz.f37) _ (by conv => lhs; reduce)
def dw9 : AC := rdc (lP 0 dm5) _ (by conv => lhs; reduce)
theorem da0 : FnText Tryz.prog 37 [7, 9] 81 2 dm5 [(4, none), (5, none), (6, none)] := tX Tryz.call37 follows Tryz.func37 rfl rfl (by decide) (by kernel_rfl) (by kernel_rfl)

def dm2 : AC := rdc (cO Tryz.prog [] 24 Tryz.f109) _ (by conv => lhs; reduce)
theorem ck9 : FnText Tryz.prog 109 [] 24 2 dm2 [] := tX Tryz.call109 follows Tryz.func109 rfl rfl (by decide) (by kernel_rfl) (by kernel_rfl)

def dr4 : AC := rdc (cO Tryz.prog [5] 28 Tryz.f66) _ (by conv => lhs; reduce)
def dw6 : AC := rdc (lP 0 dr4) _ (by conv => lhs; reduce)
theorem dh5 : FnText Tryz.prog 66 [5] 28 1 dr4 [(2, none)] := tX Tryz.call66 follows Tryz.func66 rfl rfl (by decide) (by kernel_rfl) (by kernel_rfl)

def du0 : AC := rdc (cO Tryz.prog [] 8 Tryz.f205) _ (by conv => lhs; reduce)
theorem ci7 : FnText Tryz.prog 205 [] 8 1 du0 [(2, none)] := tX Tryz.call205 follows Tryz.func205 rfl rfl (by decide) (by kernel_rfl) (by kernel_rfl)

def dw0 : AC := rdc (cO Tryz.prog [] 19 Tryz.f242) _ (by conv => lhs; reduce)
theorem co7 : FnText Tryz.prog 242 [] 19 1 dw0 [(2, none)] := tX Tryz.call242 follows Tryz.func242 rfl rfl (by decide) (by kernel_rfl) (by kernel_rfl)

def dj6 : AC := rdc (cO Tryz.prog [] 25 Tryz.f243) _ (by conv => lhs; reduce)
theorem cm4 : FnText Tryz.prog 243 [] 25 1 dj6 [(2, none)] := tX Tryz.call243 follows Tryz.func243 rfl rfl (by decide) (by kernel_rfl) (by kernel_rfl)

def cw8 : AC := rdc (cO Tryz.prog [] 148 Tryz.f204) _ (by conv => lhs; reduce)
def do5 : AC := rdc (lP 0 cw8) _ (by conv => lhs; reduce)
theorem ch8 : FnText Tryz.prog 204 [] 148 5 cw8 [] := tX Tryz.call204 follows Tryz.func204 rfl rfl (by decide) (by kernel_rfl) (by kernel_rfl)

def bz7 : AC := rdc (cO Tryz.prog [] 53 Tryz.f234) _ (by conv => lhs; reduce)
def dq2 : AC := rdc (lP 0 bz7) _ (by conv => lhs; reduce)
def ds7 : AC := rdc (lP 1 bz7) _ (by conv => lhs; reduce)
theorem cn9 : FnText Tryz.prog 234 [] 53 4 bz7 [] := tX Tryz.call234 follows Tryz.func234 rfl rfl (by decide) (by kernel_rfl) (by kernel_rfl)

def dq3 : AC := rdc (cO Tryz.prog [5] 25 Tryz.f67) _ (by conv => lhs; reduce)
def dx4 : AC := rdc (lP 0 dq3) _ (by conv => lhs; reduce)
theorem dg9 : FnText Tryz.prog 67 [5] 25 1 dq3 [(2, none)] := tX Tryz.call67 follows Tryz.func67 rfl rfl (by decide) (by kernel_rfl) (by kernel_rfl)

def cx1 : AC := rdc (cO Tryz.prog [] 134 Tryz.f207) _ (by conv => lhs; reduce)
def dj5 : AC := rdc (lP 0 cx1) _ (by conv => lhs; reduce)
theorem cl4 : FnText Tryz.prog 207 [] 134 4 cx1 [] := tX Tryz.call207 follows Tryz.func207 rfl rfl (by decide) (by kernel_rfl) (by kernel_rfl)

def bt7 : AC := rdc (cO Tryz.prog [] 49 Tryz.f244) _ (by conv => lhs; reduce)
def dt5 : AC := rdc (lP 0 bt7) _ (by conv => lhs; reduce)
def dt0 : AC := rdc (lP 1 bt7) _ (by conv => lhs; reduce)
theorem cq1 : FnText Tryz.prog 244 [] 49 3 bt7 [] := tX Tryz.call244 follows Tryz.func244 rfl rfl (by decide) (by kernel_rfl) (by kernel_rfl)

def dm3 : AC := rdc (cO Tryz.prog [] 17 Tryz.f250) _ (by conv => lhs; reduce)
theorem ct3 : FnText Tryz.prog 250 [] 17 2 dm3 [(4, none)] := tX Tryz.call250 follows Tryz.func250 rfl rfl (by decide) (by kernel_rfl) (by kernel_rfl)

def dn2 : AC := rdc (cO Tryz.prog [] 26 Tryz.f43) _ (by conv => lhs; reduce)
def dx0 : AC := rdc (lP 0 dn2) _ (by conv => lhs; reduce)
theorem di0 : FnText Tryz.prog 43 [] 26 2 dn2 [(4, none)] := tX Tryz.call43 follows Tryz.func43 rfl rfl (by decide) (by kernel_rfl) (by kernel_rfl)

def dp8 : AC := rdc (cO Tryz.prog [] 26 Tryz.f32) _ (by conv => lhs; reduce)
def dw7 : AC := rdc (lP 0 dp8) _ (by conv => lhs; reduce)
theorem df8 : FnText Tryz.prog 32 [] 26 2 dp8 [(4, none)] := tX Tryz.call32 follows Tryz.func32 rfl rfl (by decide) (by kernel_rfl) (by kernel_rfl)

def dc4 : AC := rdc (cO Tryz.prog [] 35 Tryz.f110) _ (by conv => lhs; reduce)
theorem bv9 : FnText Tryz.prog 110 [] 35 1 dc4 [(2, none), (3, none), (4, none)] := tX Tryz.call110 follows Tryz.func110 rfl rfl (by decide) (by kernel_rfl) (by kernel_rfl)

end Go.Proofs.YtmonnlkagniolaaGreat
