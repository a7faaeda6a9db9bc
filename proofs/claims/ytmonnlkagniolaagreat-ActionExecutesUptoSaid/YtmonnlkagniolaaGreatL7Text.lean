/-
 The text of each function of this seat, as the plain library tells it; each by the kernel's own reckoning from the program.
-/
import Derived.Test.YtmonnlkagniolaaGreatPbV
import Derived.Test.YtmonnlkagniolaaGreatRows
set_option linter.unusedVariables false
set_option maxRecDepth 100000
namespace Go.Proofs.YtmonnlkagniolaaGreat
open Go Go.Pb
abbrev q_ (d : Nat) (o : AOp) : AOper := ⟨some d, o, none, false⟩
abbrev t_ (n : Nat) : Operand := .tmp n
abbrev k_ (i : Int) : Operand := .const (.int .i64 i)
abbrev m_ (d n : Nat) : AOper := ⟨some d, .move (.tmp n), none, false⟩
abbrev l_ (d n : Nat) : AOper := ⟨some d, .load 1 false (.tmp n), none, false⟩
abbrev f_ (d a n : Nat) : AOper := ⟨some d, .faddr a 1 false (.tmp n), none, false⟩
abbrev n_ (d a n : Nat) : AOper := ⟨some d, .bi .len [a].toArray 3 [.tmp n], none, false⟩
abbrev r_ (l : List AOper) : AC := .region false l
abbrev z_ : Operand := .const (.slice none 0 0)
theorem follows : Tryz.prog.follows .mixedOrders = true := by kernel_rfl
def ca3 : AC := rdc (cO Tryz.prog [] 120 Tryz.f33) _ (by conv => lhs; reduce)
def cm2 : AC := rdc (lP 0 ca3) _ (by conv => lhs; reduce)
def cr1 : AC := rdc (lP 1 ca3) _ (by conv => lhs; reduce)
def cp0 : AC := rdc (lP 2 ca3) _ (by conv => lhs; reduce)
def cy6 : AC := rdc (lP 3 ca3) _ (by conv => lhs; reduce)
theorem do3 : FnText Tryz.prog 33 [] 120 1 ca3 [(2, none)] := tX Tryz.call33 follows Tryz.func33 rfl rfl (by decide) (by kernel_rfl) (by kernel_rfl)

def ej5 : AC := rdc (cO Tryz.prog [1, 2, 3] 133 Tryz.f34) _ (by conv => lhs; reduce)
theorem dk2 : FnText Tryz.prog 34 [1, 2, 3] 133 0 ej5 [(0, none)] := tX Tryz.call34 follows Tryz.func34 rfl rfl (by decide) (by kernel_rfl) (by kernel_rfl)

def ce0 : AC := rdc (cO Tryz.prog [] 17 Tryz.f185) _ (by conv => lhs; reduce)
def ar7 : AC := rdc (lP 0 ce0) _ (by conv => lhs; reduce)
theorem ap5 : FnText Tryz.prog 185 [] 17 1 ce0 [(2, none)] := tX Tryz.call185 follows Tryz.func185 rfl rfl (by decide) (by kernel_rfl) (by kernel_rfl)

def bz0 : AC := rdc (cO Tryz.prog [] 17 Tryz.f186) _ (by conv => lhs; reduce)
def at2 : AC := rdc (lP 0 bz0) _ (by conv => lhs; reduce)
theorem am7 : FnText Tryz.prog 186 [] 17 1 bz0 [(2, none)] := tX Tryz.call186 follows Tryz.func186 rfl rfl (by decide) (by kernel_rfl) (by kernel_rfl)

def cd1 : AC := rdc (cO Tryz.prog [] 17 Tryz.f187) _ (by conv => lhs; reduce)
def aw3 : AC := rdc (lP 0 cd1) _ (by conv => lhs; reduce)
theorem an3 : FnText Tryz.prog 187 [] 17 1 cd1 [(2, none)] := tX Tryz.call187 follows Tryz.func187 rfl rfl (by decide) (by kernel_rfl) (by kernel_rfl)

def cz9 : AC := rdc (cO Tryz.prog [2, 3, 1000003] 36 Tryz.f116) _ (by conv => lhs; reduce)
def cc0 : AC := rdc (lP 0 cz9) _ (by conv => lhs; reduce)
theorem bk9 : FnText Tryz.prog 116 [2, 3, 1000003] 36 1 cz9 [(2, some (4, true))] := tX Tryz.call116 follows Tryz.func116 rfl rfl (by decide) (by kernel_rfl) (by kernel_rfl)

def eb6 : AC := rdc (cO Tryz.prog [4] 19 Tryz.f233) _ (by conv => lhs; reduce)
theorem bk6 : FnText Tryz.prog 233 [4] 19 2 eb6 [(4, some (2, true))] := tX Tryz.call233 follows Tryz.func233 rfl rfl (by decide) (by kernel_rfl) (by kernel_rfl)

def du9 : AC := rdc (cO Tryz.prog [] 14 Tryz.f203) _ (by conv => lhs; reduce)
theorem bf7 : FnText Tryz.prog 203 [] 14 2 du9 [(4, none)] := tX Tryz.call203 follows Tryz.func203 rfl rfl (by decide) (by kernel_rfl) (by kernel_rfl)

def dz1 : AC := rdc (cO Tryz.prog [4] 19 Tryz.f202) _ (by conv => lhs; reduce)
theorem bc4 : FnText Tryz.prog 202 [4] 19 2 dz1 [(4, some (2, true))] := tX Tryz.call202 follows Tryz.func202 rfl rfl (by decide) (by kernel_rfl) (by kernel_rfl)

def dd8 : AC := rdc (cO Tryz.prog [] 18 Tryz.f181) _ (by conv => lhs; reduce)
def ce4 : AC := rdc (lP 0 dd8) _ (by conv => lhs; reduce)
theorem bj0 : FnText Tryz.prog 181 [] 18 1 dd8 [(2, none)] := tX Tryz.call181 follows Tryz.func181 rfl rfl (by decide) (by kernel_rfl) (by kernel_rfl)

def ea9 : AC := rdc (cO Tryz.prog [] 10 Tryz.f182) _ (by conv => lhs; reduce)
theorem bm0 : FnText Tryz.prog 182 [] 10 1 ea9 [(2, none)] := tX Tryz.call182 follows Tryz.func182 rfl rfl (by decide) (by kernel_rfl) (by kernel_rfl)

def du4 : AC := rdc (cO Tryz.prog [] 18 Tryz.f136) _ (by conv => lhs; reduce)
theorem bf8 : FnText Tryz.prog 136 [] 18 2 du4 [(4, none)] := tX Tryz.call136 follows Tryz.func136 rfl rfl (by decide) (by kernel_rfl) (by kernel_rfl)

def dz7 : AC := rdc (cO Tryz.prog [] 13 Tryz.f270) _ (by conv => lhs; reduce)
theorem bi3 : FnText Tryz.prog 270 [] 13 2 dz7 [(4, none)] := tX Tryz.call270 follows Tryz.func270 rfl rfl (by decide) (by kernel_rfl) (by kernel_rfl)

def ec7 : AC := rdc (cO Tryz.prog [] 19 Tryz.f271) _ (by conv => lhs; reduce)
theorem aq1 : FnText Tryz.prog 271 [] 19 2 ec7 [(4, none)] := tX Tryz.call271 follows Tryz.func271 rfl rfl (by decide) (by kernel_rfl) (by kernel_rfl)

def eg3 : AC := rdc (cO Tryz.prog [] 19 Tryz.f272) _ (by conv => lhs; reduce)
theorem bi6 : FnText Tryz.prog 272 [] 19 2 eg3 [(4, none)] := tX Tryz.call272 follows Tryz.func272 rfl rfl (by decide) (by kernel_rfl) (by kernel_rfl)

def da3 : AC := rdc (cO Tryz.prog [] 36 Tryz.f227) _ (by conv => lhs; reduce)
theorem ao5 : FnText Tryz.prog 227 [] 36 2 da3 [(4, none), (5, none)] := tX Tryz.call227 follows Tryz.func227 rfl rfl (by decide) (by kernel_rfl) (by kernel_rfl)

def eh0 : AC := rdc (cO Tryz.prog [8, 9] 38 Tryz.f188) _ (by conv => lhs; reduce)
theorem bm6 : FnText Tryz.prog 188 [8, 9] 38 4 eh0 [(8, some (4, true))] := tX Tryz.call188 follows Tryz.func188 rfl rfl (by decide) (by kernel_rfl) (by kernel_rfl)

def da7 : AC := rdc (cO Tryz.prog [] 30 Tryz.f117) _ (by conv => lhs; reduce)
def ee1 : AC := rdc (lP 0 da7) _ (by conv => lhs; reduce)
theorem bd4 : FnText Tryz.prog 117 [] 30 1 da7 [(2, none)] := tX Tryz.call117 follows Tryz.func117 rfl rfl (by decide) (by kernel_rfl) (by kernel_rfl)

def ed8 : AC := rdc (cO Tryz.prog [] 17 Tryz.f221) _ (by conv => lhs; reduce)
theorem bi8 : FnText Tryz.prog 221 [] 17 1 ed8 [(2, none)] := tX Tryz.call221 follows Tryz.func221 rfl rfl (by decide) (by kernel_rfl) (by kernel_rfl)

def dd9 : AC := rdc (cO Tryz.prog [] 20 Tryz.f222) _ (by conv => lhs; reduce)
def bw4 : AC := rdc (lP 0 dd9) _ (by conv => lhs; reduce)
theorem bc1 : FnText Tryz.prog 222 [] 20 2 dd9 [(4, none)] := tX Tryz.call222 follows Tryz.func222 rfl rfl (by decide) (by kernel_rfl) (by kernel_rfl)

def dw6 : AC := rdc (cO Tryz.prog [] 9 Tryz.f224) _ (by conv => lhs; reduce)
theorem bd8 : FnText Tryz.prog 224 [] 9 1 dw6 [(2, none)] := tX Tryz.call224 follows Tryz.func224 rfl rfl (by decide) (by kernel_rfl) (by kernel_rfl)

def ec9 : AC := rdc (cO Tryz.prog [] 13 Tryz.f223) _ (by conv => lhs; reduce)
theorem bj7 : FnText Tryz.prog 223 [] 13 1 ec9 [(2, none)] := tX Tryz.call223 follows Tryz.func223 rfl rfl (by decide) (by kernel_rfl) (by kernel_rfl)

def dt2 : AC := rdc (cO Tryz.prog [] 22 Tryz.f169) _ (by conv => lhs; reduce)
theorem bg5 : FnText Tryz.prog 169 [] 22 1 dt2 [(2, none)] := tX Tryz.call169 follows Tryz.func169 rfl rfl (by decide) (by kernel_rfl) (by kernel_rfl)

def eb7 : AC := rdc (cO Tryz.prog [] 9 Tryz.f171) _ (by conv => lhs; reduce)
theorem bk3 : FnText Tryz.prog 171 [] 9 2 eb7 [(3, none)] := tX Tryz.call171 follows Tryz.func171 rfl rfl (by decide) (by kernel_rfl) (by kernel_rfl)

def dd4 : AC := rdc (cO Tryz.prog [] 19 Tryz.f225) _ (by conv => lhs; reduce)
def bw8 : AC := rdc (lP 0 dd4) _ (by conv => lhs; reduce)
theorem bc9 : FnText Tryz.prog 225 [] 19 2 dd4 [(4, none)] := tX Tryz.call225 follows Tryz.func225 rfl rfl (by decide) (by kernel_rfl) (by kernel_rfl)

def ds5 : AC := rdc (cO Tryz.prog [] 9 Tryz.f170) _ (by conv => lhs; reduce)
theorem bf9 : FnText Tryz.prog 170 [] 9 2 ds5 [(4, none)] := tX Tryz.call170 follows Tryz.func170 rfl rfl (by decide) (by kernel_rfl) (by kernel_rfl)

def db0 : AC := rdc (cO Tryz.prog [4] 51 Tryz.f103) _ (by conv => lhs; reduce)
def cc2 : AC := rdc (lP 0 db0) _ (by conv => lhs; reduce)
theorem bm2 : FnText Tryz.prog 103 [4] 51 1 db0 [(2, none)] := tX Tryz.call103 follows Tryz.func103 rfl rfl (by decide) (by kernel_rfl) (by kernel_rfl)

def dq6 : AC := rdc (cO Tryz.prog [] 46 Tryz.f172) _ (by conv => lhs; reduce)
theorem bg4 : FnText Tryz.prog 172 [] 46 2 dq6 [(4, none), (5, none)] := tX Tryz.call172 follows Tryz.func172 rfl rfl (by decide) (by kernel_rfl) (by kernel_rfl)

def dy8 : AC := rdc (cO Tryz.prog [] 25 Tryz.f267) _ (by conv => lhs; reduce)
theorem bh1 : FnText Tryz.prog 267 [] 25 1 dy8 [(2, none)] := tX Tryz.call267 follows Tryz.func267 rfl rfl (by decide) (by kernel_rfl) (by kernel_rfl)

def eh3 : AC := rdc (cO Tryz.prog [] 11 Tryz.f287) _ (by conv => lhs; reduce)
theorem bk2 : FnText Tryz.prog 287 [] 11 1 eh3 [(2, none), (3, none)] := tX Tryz.call287 follows Tryz.func287 rfl rfl (by decide) (by kernel_rfl) (by kernel_rfl)

def dc1 : AC := rdc (cO Tryz.prog [6] 45 Tryz.f288) _ (by conv => lhs; reduce)
theorem bd7 : FnText Tryz.prog 288 [6] 45 3 dc1 [(6, some (2, true)), (7, none)] := tX Tryz.call288 follows Tryz.func288 rfl rfl (by decide) (by kernel_rfl) (by kernel_rfl)

def eg6 : AC := rdc (cO Tryz.prog [8] 90 Tryz.f268) _ (by conv => lhs; reduce)
theorem bm5 : FnText Tryz.prog 268 [8] 90 2 eg6 [(4, none), (5, none)] := tX Tryz.call268 follows Tryz.func268 rfl rfl (by decide) (by kernel_rfl) (by kernel_rfl)

def eg7 : AC := rdc (cO Tryz.prog [] 91 Tryz.f269) _ (by conv => lhs; reduce)
theorem bm4 : FnText Tryz.prog 269 [] 91 2 eg7 [(4, none), (5, none)] := tX Tryz.call269 follows Tryz.func269 rfl rfl (by decide) (by kernel_rfl) (by kernel_rfl)

def de2 : AC := rdc (cO Tryz.prog [10] 73 Tryz.f226) _ (by conv => lhs; reduce)
def ca1 : AC := rdc (lP 0 de2) _ (by conv => lhs; reduce)
theorem bb9 : FnText Tryz.prog 226 [10] 73 3 de2 [(6, none), (7, none), (8, none)] := tX Tryz.call226 follows Tryz.func226 rfl rfl (by decide) (by kernel_rfl) (by kernel_rfl)

def dz2 : AC := rdc (cO Tryz.prog [] 27 Tryz.f174) _ (by conv => lhs; reduce)
theorem bh0 : FnText Tryz.prog 174 [] 27 2 dz2 [(4, none), (5, none)] := tX Tryz.call174 follows Tryz.func174 rfl rfl (by decide) (by kernel_rfl) (by kernel_rfl)

def eh5 : AC := rdc (cO Tryz.prog [] 24 Tryz.f173) _ (by conv => lhs; reduce)
theorem bm7 : FnText Tryz.prog 173 [] 24 3 eh5 [(6, none)] := tX Tryz.call173 follows Tryz.func173 rfl rfl (by decide) (by kernel_rfl) (by kernel_rfl)

def ed2 : AC := rdc (cO Tryz.prog [5] 105 Tryz.f104) _ (by conv => lhs; reduce)
theorem bl7 : FnText Tryz.prog 104 [5] 105 2 ed2 [(4, none)] := tX Tryz.call104 follows Tryz.func104 rfl rfl (by decide) (by kernel_rfl) (by kernel_rfl)

def ee0 : AC := rdc (cO Tryz.prog [6, 7, 9] 50 Tryz.f35) _ (by conv => lhs; reduce)
def cn3 : AC := rdc (lP 0 ee0) _ (by conv => lhs; reduce)
theorem bt5 : FnText Tryz.prog 35 [6, 7, 9] 50 2 ee0 [(4, none), (5, none)] := tX Tryz.call35 follows Tryz.func35 rfl rfl (by decide) (by kernel_rfl) (by kernel_rfl)

def ea3 : AC := rdc (cO Tryz.prog [] 14 Tryz.f114) _ (by conv => lhs; reduce)
theorem bj1 : FnText Tryz.prog 114 [] 14 2 ea3 [(4, none)] := tX Tryz.call114 follows Tryz.func114 rfl rfl (by decide) (by kernel_rfl) (by kernel_rfl)

def dz8 : AC := rdc (cO Tryz.prog [] 49 Tryz.f41) _ (by conv => lhs; reduce)
def cu3 : AC := rdc (lP 0 dz8) _ (by conv => lhs; reduce)
theorem bs0 : FnText Tryz.prog 41 [] 49 2 dz8 [(4, none)] := tX Tryz.call41 follows Tryz.func41 rfl rfl (by decide) (by kernel_rfl) (by kernel_rfl)

def ef0 : AC := rdc (cO Tryz.prog [] 20 Tryz.f294) _ (by conv => lhs; reduce)
theorem bl0 : FnText Tryz.prog 294 [] 20 2 ef0 [(4, none)] := tX Tryz.call294 follows Tryz.func294 rfl rfl (by decide) (by kernel_rfl) (by kernel_rfl)

def eb5 : AC := rdc (cO Tryz.prog [4] 82 Tryz.f289) _ (by conv => lhs; reduce)
theorem bh6 : FnText Tryz.prog 289 [4] 82 2 eb5 [(4, some (2, true))] := tX Tryz.call289 follows Tryz.func289 rfl rfl (by decide) (by kernel_rfl) (by kernel_rfl)

def dr6 : AC := rdc (cO Tryz.prog [] 10 Tryz.f295) _ (by conv => lhs; reduce)
theorem bb5 : FnText Tryz.prog 295 [] 10 2 dr6 [(4, none)] := tX Tryz.call295 follows Tryz.func295 rfl rfl (by decide) (by kernel_rfl) (by kernel_rfl)

def eh1 : AC := rdc (cO Tryz.prog [] 14 Tryz.f296) _ (by conv => lhs; reduce)
theorem bd9 : FnText Tryz.prog 296 [] 14 3 eh1 [(6, none)] := tX Tryz.call296 follows Tryz.func296 rfl rfl (by decide) (by kernel_rfl) (by kernel_rfl)

def ec1 : AC := rdc (cO Tryz.prog [] 14 Tryz.f297) _ (by conv => lhs; reduce)
theorem bi0 : FnText Tryz.prog 297 [] 14 3 ec1 [(6, none)] := tX Tryz.call297 follows Tryz.func297 rfl rfl (by decide) (by kernel_rfl) (by kernel_rfl)

def dy3 : AC := rdc (cO Tryz.prog [] 27 Tryz.f298) _ (by conv => lhs; reduce)
theorem bd3 : FnText Tryz.prog 298 [] 27 3 dy3 [(6, none)] := tX Tryz.call298 follows Tryz.func298 rfl rfl (by decide) (by kernel_rfl) (by kernel_rfl)

def eg9 : AC := rdc (cO Tryz.prog [4] 51 Tryz.f290) _ (by conv => lhs; reduce)
theorem bj9 : FnText Tryz.prog 290 [4] 51 2 eg9 [(4, some (2, true))] := tX Tryz.call290 follows Tryz.func290 rfl rfl (by decide) (by kernel_rfl) (by kernel_rfl)

def ee3 : AC := rdc (cO Tryz.prog [] 13 Tryz.f299) _ (by conv => lhs; reduce)
theorem bc5 : FnText Tryz.prog 299 [] 13 3 ee3 [(6, none)] := tX Tryz.call299 follows Tryz.func299 rfl rfl (by decide) (by kernel_rfl) (by kernel_rfl)

def dw0 : AC := rdc (cO Tryz.prog [] 13 Tryz.f300) _ (by conv => lhs; reduce)
theorem bl5 : FnText Tryz.prog 300 [] 13 3 dw0 [(6, none)] := tX Tryz.call300 follows Tryz.func300 rfl rfl (by decide) (by kernel_rfl) (by kernel_rfl)

def dv6 : AC := rdc (cO Tryz.prog [] 32 Tryz.f301) _ (by conv => lhs; reduce)
theorem be8 : FnText Tryz.prog 301 [] 32 4 dv6 [(8, none), (9, none)] := tX Tryz.call301 follows Tryz.func301 rfl rfl (by decide) (by kernel_rfl) (by kernel_rfl)

def eb0 : AC := rdc (cO Tryz.prog [2] 6 Tryz.f302) _ (by conv => lhs; reduce)
theorem bk7 : FnText Tryz.prog 302 [2] 6 1 eb0 [(2, some (2, true))] := tX Tryz.call302 follows Tryz.func302 rfl rfl (by decide) (by kernel_rfl) (by kernel_rfl)

def dr9 : AC := rdc (cO Tryz.prog [6] 99 Tryz.f291) _ (by conv => lhs; reduce)
theorem bi1 : FnText Tryz.prog 291 [6] 99 3 dr9 [(6, some (2, true))] := tX Tryz.call291 follows Tryz.func291 rfl rfl (by decide) (by kernel_rfl) (by kernel_rfl)

def ee5 : AC := rdc (cO Tryz.prog [2, 3, 4, 5, 6, 7, 8, 1000000] 62 Tryz.f273) _ (by conv => lhs; reduce)
theorem bi5 : FnText Tryz.prog 273 [2, 3, 4, 5, 6, 7, 8, 1000000] 62 1 ee5 [(2, some (2, true))] := tX Tryz.call273 follows Tryz.func273 rfl rfl (by decide) (by kernel_rfl) (by kernel_rfl)

def dx3 : AC := rdc (cO Tryz.prog [11] 27 Tryz.f228) _ (by conv => lhs; reduce)
theorem bf1 : FnText Tryz.prog 228 [11] 27 4 dx3 [(8, none)] := tX Tryz.call228 follows Tryz.func228 rfl rfl (by decide) (by kernel_rfl) (by kernel_rfl)

def dr5 : AC := rdc (cO Tryz.prog [] 19 Tryz.f189) _ (by conv => lhs; reduce)
theorem bk1 : FnText Tryz.prog 189 [] 19 2 dr5 [(4, none)] := tX Tryz.call189 follows Tryz.func189 rfl rfl (by decide) (by kernel_rfl) (by kernel_rfl)

def ds8 : AC := rdc (cO Tryz.prog [] 23 Tryz.f118) _ (by conv => lhs; reduce)
theorem bb2 : FnText Tryz.prog 118 [] 23 2 ds8 [] := tX Tryz.call118 follows Tryz.func118 rfl rfl (by decide) (by kernel_rfl) (by kernel_rfl)

def ea8 : AC := rdc (cO Tryz.prog [] 13 Tryz.f274) _ (by conv => lhs; reduce)
theorem bg3 : FnText Tryz.prog 274 [] 13 2 ea8 [(4, none)] := tX Tryz.call274 follows Tryz.func274 rfl rfl (by decide) (by kernel_rfl) (by kernel_rfl)

def dz5 : AC := rdc (cO Tryz.prog [] 13 Tryz.f275) _ (by conv => lhs; reduce)
theorem bd5 : FnText Tryz.prog 275 [] 13 2 dz5 [(4, none)] := tX Tryz.call275 follows Tryz.func275 rfl rfl (by decide) (by kernel_rfl) (by kernel_rfl)

def dt0 : AC := rdc (cO Tryz.prog [10, 11] 49 Tryz.f229) _ (by conv => lhs; reduce)
theorem bd1 : FnText Tryz.prog 229 [10, 11] 49 5 dt0 [(10, some (4, true))] := tX Tryz.call229 follows Tryz.func229 rfl rfl (by decide) (by kernel_rfl) (by kernel_rfl)

def dz9 : AC := rdc (cO Tryz.prog [6] 11 Tryz.f190) _ (by conv => lhs; reduce)
theorem bf4 : FnText Tryz.prog 190 [6] 11 3 dz9 [(6, some (4, true))] := tX Tryz.call190 follows Tryz.func190 rfl rfl (by decide) (by kernel_rfl) (by kernel_rfl)

def eh2 : AC := rdc (cO Tryz.prog [] 19 Tryz.f119) _ (by conv => lhs; reduce)
theorem be6 : FnText Tryz.prog 119 [] 19 2 eh2 [] := tX Tryz.call119 follows Tryz.func119 rfl rfl (by decide) (by kernel_rfl) (by kernel_rfl)

def dy4 : AC := rdc (cO Tryz.prog [6] 11 Tryz.f191) _ (by conv => lhs; reduce)
theorem bg6 : FnText Tryz.prog 191 [6] 11 3 dy4 [(6, some (4, true))] := tX Tryz.call191 follows Tryz.func191 rfl rfl (by decide) (by kernel_rfl) (by kernel_rfl)

def ds0 : AC := rdc (cO Tryz.prog [] 19 Tryz.f120) _ (by conv => lhs; reduce)
theorem bb6 : FnText Tryz.prog 120 [] 19 2 ds0 [] := tX Tryz.call120 follows Tryz.func120 rfl rfl (by decide) (by kernel_rfl) (by kernel_rfl)

def du8 : AC := rdc (cO Tryz.prog [] 45 Tryz.f230) _ (by conv => lhs; reduce)
theorem bk0 : FnText Tryz.prog 230 [] 45 3 du8 [(6, none)] := tX Tryz.call230 follows Tryz.func230 rfl rfl (by decide) (by kernel_rfl) (by kernel_rfl)

def dr7 : AC := rdc (cO Tryz.prog [] 25 Tryz.f192) _ (by conv => lhs; reduce)
theorem bc8 : FnText Tryz.prog 192 [] 25 4 dr7 [(8, none)] := tX Tryz.call192 follows Tryz.func192 rfl rfl (by decide) (by kernel_rfl) (by kernel_rfl)

def dv0 : AC := rdc (cO Tryz.prog [] 37 Tryz.f121) _ (by conv => lhs; reduce)
theorem bk8 : FnText Tryz.prog 121 [] 37 2 dv0 [] := tX Tryz.call121 follows Tryz.func121 rfl rfl (by decide) (by kernel_rfl) (by kernel_rfl)

def ef2 : AC := rdc (cO Tryz.prog [] 48 Tryz.f193) _ (by conv => lhs; reduce)
theorem bg8 : FnText Tryz.prog 193 [] 48 5 ef2 [(10, none)] := tX Tryz.call193 follows Tryz.func193 rfl rfl (by decide) (by kernel_rfl) (by kernel_rfl)

def dr4 : AC := rdc (cO Tryz.prog [] 27 Tryz.f122) _ (by conv => lhs; reduce)
theorem bh8 : FnText Tryz.prog 122 [] 27 2 dr4 [] := tX Tryz.call122 follows Tryz.func122 rfl rfl (by decide) (by kernel_rfl) (by kernel_rfl)

def di6 : AC := rdc (cO Tryz.prog [8, 22, 13, 15] 94 Tryz.f44) _ (by conv => lhs; reduce)
def cz5 : AC := rdc (lP 0 di6) _ (by conv => lhs; reduce)
theorem bz8 : FnText Tryz.prog 44 [8, 22, 13, 15] 94 4 di6 [(8, some (4, true)), (9, none)] := tX Tryz.call44 follows Tryz.func44 rfl rfl (by decide) (by kernel_rfl) (by kernel_rfl)

def eh4 : AC := rdc (cO Tryz.prog [] 17 Tryz.f175) _ (by conv => lhs; reduce)
theorem cv3 : FnText Tryz.prog 175 [] 17 1 eh4 [(2, none)] := tX Tryz.call175 follows Tryz.func175 rfl rfl (by decide) (by kernel_rfl) (by kernel_rfl)

def du0 : AC := rdc (cO Tryz.prog [] 9 Tryz.f176) _ (by conv => lhs; reduce)
theorem co6 : FnText Tryz.prog 176 [] 9 1 du0 [(2, none)] := tX Tryz.call176 follows Tryz.func176 rfl rfl (by decide) (by kernel_rfl) (by kernel_rfl)

def dc8 : AC := rdc (cO Tryz.prog [] 41 Tryz.f105) _ (by conv => lhs; reduce)
def bx2 : AC := rdc (lP 0 dc8) _ (by conv => lhs; reduce)
theorem cv7 : FnText Tryz.prog 105 [] 41 1 dc8 [(2, none)] := tX Tryz.call105 follows Tryz.func105 rfl rfl (by decide) (by kernel_rfl) (by kernel_rfl)

def bw9 : AC := rdc (cO Tryz.prog [] 50 Tryz.f106) _ (by conv => lhs; reduce)
def bw7 : AC := rdc (lP 0 bw9) _ (by conv => lhs; reduce)
def bt3 : AC := rdc (lP 1 bw9) _ (by conv => lhs; reduce)
theorem cn9 : FnText Tryz.prog 106 [] 50 1 bw9 [(2, none)] := tX Tryz.call106 follows Tryz.func106 rfl rfl (by decide) (by kernel_rfl) (by kernel_rfl)

def ek3 : AC := rdc (cO Tryz.prog [4] 13 Tryz.f85) _ (by conv => lhs; reduce)
theorem df9 : FnText Tryz.prog 85 [4] 13 2 ek3 [(4, some (10, true))] := tX Tryz.call85 follows Tryz.func85 rfl rfl (by decide) (by kernel_rfl) (by kernel_rfl)

def ea6 : AC := rdc (cO Tryz.prog [] 46 Tryz.f177) _ (by conv => lhs; reduce)
theorem co5 : FnText Tryz.prog 177 [] 46 2 ea6 [(4, none), (5, none)] := tX Tryz.call177 follows Tryz.func177 rfl rfl (by decide) (by kernel_rfl) (by kernel_rfl)

def ee4 : AC := rdc (cO Tryz.prog [] 27 Tryz.f219) _ (by conv => lhs; reduce)
theorem ci2 : FnText Tryz.prog 219 [] 27 1 ee4 [(2, none)] := tX Tryz.call219 follows Tryz.func219 rfl rfl (by decide) (by kernel_rfl) (by kernel_rfl)

def ec2 : AC := rdc (cO Tryz.prog [] 11 Tryz.f285) _ (by conv => lhs; reduce)
theorem cw8 : FnText Tryz.prog 285 [] 11 1 ec2 [(2, none), (3, none)] := tX Tryz.call285 follows Tryz.func285 rfl rfl (by decide) (by kernel_rfl) (by kernel_rfl)

def dr1 : AC := rdc (cO Tryz.prog [] 9 Tryz.f183) _ (by conv => lhs; reduce)
theorem cm3 : FnText Tryz.prog 183 [] 9 1 dr1 [(2, none)] := tX Tryz.call183 follows Tryz.func183 rfl rfl (by decide) (by kernel_rfl) (by kernel_rfl)

def db5 : AC := rdc (cO Tryz.prog [] 13 Tryz.f184) _ (by conv => lhs; reduce)
def cb1 : AC := rdc (lP 0 db5) _ (by conv => lhs; reduce)
theorem co1 : FnText Tryz.prog 184 [] 13 1 db5 [(2, none)] := tX Tryz.call184 follows Tryz.func184 rfl rfl (by decide) (by kernel_rfl) (by kernel_rfl)

def du6 : AC := rdc (cO Tryz.prog [] 10 Tryz.f286) _ (by conv => lhs; reduce)
theorem cz0 : FnText Tryz.prog 286 [] 10 1 du6 [(2, none)] := tX Tryz.call286 follows Tryz.func286 rfl rfl (by decide) (by kernel_rfl) (by kernel_rfl)

def ef7 : AC := rdc (cO Tryz.prog [] 91 Tryz.f258) _ (by conv => lhs; reduce)
theorem cy9 : FnText Tryz.prog 258 [] 91 2 ef7 [(4, none), (5, none)] := tX Tryz.call258 follows Tryz.func258 rfl rfl (by decide) (by kernel_rfl) (by kernel_rfl)

def ed6 : AC := rdc (cO Tryz.prog [] 105 Tryz.f259) _ (by conv => lhs; reduce)
theorem cp8 : FnText Tryz.prog 259 [] 105 2 ed6 [(4, none), (5, none)] := tX Tryz.call259 follows Tryz.func259 rfl rfl (by decide) (by kernel_rfl) (by kernel_rfl)

def db4 : AC := rdc (cO Tryz.prog [] 85 Tryz.f216) _ (by conv => lhs; reduce)
def bu2 : AC := rdc (lP 0 db4) _ (by conv => lhs; reduce)
theorem cy1 : FnText Tryz.prog 216 [] 85 3 db4 [(6, none), (7, none), (8, none)] := tX Tryz.call216 follows Tryz.func216 rfl rfl (by decide) (by kernel_rfl) (by kernel_rfl)

def dt9 : AC := rdc (cO Tryz.prog [] 29 Tryz.f156) _ (by conv => lhs; reduce)
theorem cq8 : FnText Tryz.prog 156 [] 29 2 dt9 [(4, none), (5, none)] := tX Tryz.call156 follows Tryz.func156 rfl rfl (by decide) (by kernel_rfl) (by kernel_rfl)

def eg2 : AC := rdc (cO Tryz.prog [] 23 Tryz.f178) _ (by conv => lhs; reduce)
theorem co8 : FnText Tryz.prog 178 [] 23 3 eg2 [(6, none)] := tX Tryz.call178 follows Tryz.func178 rfl rfl (by decide) (by kernel_rfl) (by kernel_rfl)

def dw2 : AC := rdc (cO Tryz.prog [] 111 Tryz.f107) _ (by conv => lhs; reduce)
theorem cg1 : FnText Tryz.prog 107 [] 111 3 dw2 [(6, none)] := tX Tryz.call107 follows Tryz.func107 rfl rfl (by decide) (by kernel_rfl) (by kernel_rfl)

def ds2 : AC := rdc (cO Tryz.prog [6] 68 Tryz.f36) _ (by conv => lhs; reduce)
def co4 : AC := rdc (lP 0 ds2) _ (by conv => lhs; reduce)
theorem de6 : FnText Tryz.prog 36 [6] 68 2 ds2 [(4, none), (5, none)] := tX Tryz.call36 follows Tryz.func36 rfl rfl (by decide) (by kernel_rfl) (by kernel_rfl)

def eg0 : AC := rdc (cO Tryz.prog [] 14 Tryz.f115) _ (by conv => lhs; reduce)
theorem cj9 : FnText Tryz.prog 115 [] 14 2 eg0 [(4, none)] := tX Tryz.call115 follows Tryz.func115 rfl rfl (by decide) (by kernel_rfl) (by kernel_rfl)

def dw3 : AC := rdc (cO Tryz.prog [] 49 Tryz.f42) _ (by conv => lhs; reduce)
def cw2 : AC := rdc (lP 0 dw3) _ (by conv => lhs; reduce)
theorem dl0 : FnText Tryz.prog 42 [] 49 2 dw3 [(4, none)] := tX Tryz.call42 follows Tryz.func42 rfl rfl (by decide) (by kernel_rfl) (by kernel_rfl)

def dt1 : AC := rdc (cO Tryz.prog [] 47 Tryz.f124) _ (by conv => lhs; reduce)
theorem cj3 : FnText Tryz.prog 124 [] 47 2 dt1 [(4, none)] := tX Tryz.call124 follows Tryz.func124 rfl rfl (by decide) (by kernel_rfl) (by kernel_rfl)

def ej7 : AC := rdc (cO Tryz.prog [] 21 Tryz.f93) _ (by conv => lhs; reduce)
theorem dg1 : FnText Tryz.prog 93 [] 21 2 ej7 [(4, none)] := tX Tryz.call93 follows Tryz.func93 rfl rfl (by decide) (by kernel_rfl) (by kernel_rfl)

def ej4 : AC := rdc (cO Tryz.prog [] 33 Tryz.f49) _ (by conv => lhs; reduce)
theorem dp9 : FnText Tryz.prog 49 [] 33 2 ej4 [(4, none)] := tX Tryz.call49 follows Tryz.func49 rfl rfl (by decide) (by kernel_rfl) (by kernel_rfl)

def ea5 : AC := rdc (cO Tryz.prog [] 13 Tryz.f217) _ (by conv => lhs; reduce)
theorem cw5 : FnText Tryz.prog 217 [] 13 2 ea5 [(4, none)] := tX Tryz.call217 follows Tryz.func217 rfl rfl (by decide) (by kernel_rfl) (by kernel_rfl)

def dv7 : AC := rdc (cO Tryz.prog [] 4 Tryz.f218) _ (by conv => lhs; reduce)
theorem ci9 : FnText Tryz.prog 218 [] 4 1 dv7 [(2, none)] := tX Tryz.call218 follows Tryz.func218 rfl rfl (by decide) (by kernel_rfl) (by kernel_rfl)

def eh6 : AC := rdc (cO Tryz.prog [] 12 Tryz.f260) _ (by conv => lhs; reduce)
theorem cr0 : FnText Tryz.prog 260 [] 12 2 eh6 [(4, none)] := tX Tryz.call260 follows Tryz.func260 rfl rfl (by decide) (by kernel_rfl) (by kernel_rfl)

def da1 : AC := rdc (cO Tryz.prog [] 28 Tryz.f261) _ (by conv => lhs; reduce)
def by3 : AC := rdc (lP 0 da1) _ (by conv => lhs; reduce)
theorem cw7 : FnText Tryz.prog 261 [] 28 3 da1 [(6, none)] := tX Tryz.call261 follows Tryz.func261 rfl rfl (by decide) (by kernel_rfl) (by kernel_rfl)

def da0 : AC := rdc (cO Tryz.prog [] 25 Tryz.f262) _ (by conv => lhs; reduce)
def br1 : AC := rdc (lP 0 da0) _ (by conv => lhs; reduce)
theorem ct5 : FnText Tryz.prog 262 [] 25 3 da0 [(6, none)] := tX Tryz.call262 follows Tryz.func262 rfl rfl (by decide) (by kernel_rfl) (by kernel_rfl)

def ef5 : AC := rdc (cO Tryz.prog [] 27 Tryz.f263) _ (by conv => lhs; reduce)
theorem co0 : FnText Tryz.prog 263 [] 27 3 ef5 [(6, none)] := tX Tryz.call263 follows Tryz.func263 rfl rfl (by decide) (by kernel_rfl) (by kernel_rfl)

def dt6 : AC := rdc (cO Tryz.prog [] 14 Tryz.f264) _ (by conv => lhs; reduce)
theorem cr4 : FnText Tryz.prog 264 [] 14 3 dt6 [(6, none)] := tX Tryz.call264 follows Tryz.func264 rfl rfl (by decide) (by kernel_rfl) (by kernel_rfl)

def dx6 : AC := rdc (cO Tryz.prog [] 26 Tryz.f265) _ (by conv => lhs; reduce)
theorem cr9 : FnText Tryz.prog 265 [] 26 3 dx6 [(6, none)] := tX Tryz.call265 follows Tryz.func265 rfl rfl (by decide) (by kernel_rfl) (by kernel_rfl)

def dq7 : AC := rdc (cO Tryz.prog [] 38 Tryz.f266) _ (by conv => lhs; reduce)
theorem cv6 : FnText Tryz.prog 266 [] 38 4 dq7 [(8, none), (9, none)] := tX Tryz.call266 follows Tryz.func266 rfl rfl (by decide) (by kernel_rfl) (by kernel_rfl)

def dw5 : AC := rdc (cO Tryz.prog [] 167 Tryz.f220) _ (by conv => lhs; reduce)
theorem cu6 : FnText Tryz.prog 220 [] 167 2 dw5 [(4, none)] := tX Tryz.call220 follows Tryz.func220 rfl rfl (by decide) (by kernel_rfl) (by kernel_rfl)

def dc7 : AC := rdc (cO Tryz.prog [10, 11, 19] 127 Tryz.f157) _ (by conv => lhs; reduce)
def bs6 : AC := rdc (lP 0 dc7) _ (by conv => lhs; reduce)
theorem cv0 : FnText Tryz.prog 157 [10, 11, 19] 127 5 dc7 [(10, some (3, true))] := tX Tryz.call157 follows Tryz.func157 rfl rfl (by decide) (by kernel_rfl) (by kernel_rfl)

def ej6 : AC := rdc (cO Tryz.prog [] 25 Tryz.f86) _ (by conv => lhs; reduce)
theorem dp0 : FnText Tryz.prog 86 [] 25 4 ej6 [(8, none)] := tX Tryz.call86 follows Tryz.func86 rfl rfl (by decide) (by kernel_rfl) (by kernel_rfl)

def ej3 : AC := rdc (cO Tryz.prog [] 63 Tryz.f84) _ (by conv => lhs; reduce)
theorem dn0 : FnText Tryz.prog 84 [] 63 2 ej3 [(4, none)] := tX Tryz.call84 follows Tryz.func84 rfl rfl (by decide) (by kernel_rfl) (by kernel_rfl)

def de3 : AC := rdc (cO Tryz.prog [2, 3, 1000003] 43 Tryz.f158) _ (by conv => lhs; reduce)
def ce1 : AC := rdc (lP 0 de3) _ (by conv => lhs; reduce)
theorem cu0 : FnText Tryz.prog 158 [2, 3, 1000003] 43 1 de3 [(2, some (4, true))] := tX Tryz.call158 follows Tryz.func158 rfl rfl (by decide) (by kernel_rfl) (by kernel_rfl)

def dc9 : AC := rdc (cO Tryz.prog [] 19 Tryz.f159) _ (by conv => lhs; reduce)
def bt0 : AC := rdc (lP 0 dc9) _ (by conv => lhs; reduce)
theorem cz4 : FnText Tryz.prog 159 [] 19 2 dc9 [(4, none)] := tX Tryz.call159 follows Tryz.func159 rfl rfl (by decide) (by kernel_rfl) (by kernel_rfl)

def ek1 : AC := rdc (cO Tryz.prog [8, 9] 61 Tryz.f87) _ (by conv => lhs; reduce)
theorem de9 : FnText Tryz.prog 87 [8, 9] 61 4 ek1 [(8, some (4, true))] := tX Tryz.call87 follows Tryz.func87 rfl rfl (by decide) (by kernel_rfl) (by kernel_rfl)

def du7 : AC := rdc (cO Tryz.prog [6, 7] 32 Tryz.f160) _ (by conv => lhs; reduce)
theorem ch3 : FnText Tryz.prog 160 [6, 7] 32 3 du7 [(6, some (4, true))] := tX Tryz.call160 follows Tryz.func160 rfl rfl (by decide) (by kernel_rfl) (by kernel_rfl)

def ej8 : AC := rdc (cO Tryz.prog [6] 35 Tryz.f88) _ (by conv => lhs; reduce)
theorem df2 : FnText Tryz.prog 88 [6] 35 3 ej8 [(6, some (4, true))] := tX Tryz.call88 follows Tryz.func88 rfl rfl (by decide) (by kernel_rfl) (by kernel_rfl)

def ej9 : AC := rdc (cO Tryz.prog [6] 28 Tryz.f89) _ (by conv => lhs; reduce)
theorem dh3 : FnText Tryz.prog 89 [6] 28 3 ej9 [(6, some (4, true))] := tX Tryz.call89 follows Tryz.func89 rfl rfl (by decide) (by kernel_rfl) (by kernel_rfl)

def ea1 : AC := rdc (cO Tryz.prog [] 45 Tryz.f161) _ (by conv => lhs; reduce)
theorem ck8 : FnText Tryz.prog 161 [] 45 4 ea1 [(8, none)] := tX Tryz.call161 follows Tryz.func161 rfl rfl (by decide) (by kernel_rfl) (by kernel_rfl)

def ek2 : AC := rdc (cO Tryz.prog [] 22 Tryz.f90) _ (by conv => lhs; reduce)
theorem dk1 : FnText Tryz.prog 90 [] 22 4 ek2 [(8, none)] := tX Tryz.call90 follows Tryz.func90 rfl rfl (by decide) (by kernel_rfl) (by kernel_rfl)

def du5 : AC := rdc (cO Tryz.prog [] 13 Tryz.f162) _ (by conv => lhs; reduce)
theorem cv8 : FnText Tryz.prog 162 [] 13 1 du5 [(2, none)] := tX Tryz.call162 follows Tryz.func162 rfl rfl (by decide) (by kernel_rfl) (by kernel_rfl)

def dq3 : AC := rdc (cO Tryz.prog [] 70 Tryz.f91) _ (by conv => lhs; reduce)
def cs6 : AC := rdc (lP 0 dq3) _ (by conv => lhs; reduce)
def cj1 : AC := rdc (lP 1 dq3) _ (by conv => lhs; reduce)
theorem dh4 : FnText Tryz.prog 91 [] 70 5 dq3 [(10, none)] := tX Tryz.call91 follows Tryz.func91 rfl rfl (by decide) (by kernel_rfl) (by kernel_rfl)

def dl9 : AC := rdc (cO Tryz.prog [6, 8, 12, 15] 116 Tryz.f23) _ (by conv => lhs; reduce)
def cm5 : AC := rdc (lP 0 dl9) _ (by conv => lhs; reduce)
theorem dj7 : FnText Tryz.prog 23 [6, 8, 12, 15] 116 4 dl9 [(8, some (4, true)), (9, none)] := tX Tryz.call23 follows Tryz.func23 rfl rfl (by decide) (by kernel_rfl) (by kernel_rfl)

def dz0 : AC := rdc (cO Tryz.prog [] 26 Tryz.f24) _ (by conv => lhs; reduce)
def ct3 : AC := rdc (lP 0 dz0) _ (by conv => lhs; reduce)
theorem dp3 : FnText Tryz.prog 24 [] 26 2 dz0 [(4, none)] := tX Tryz.call24 follows Tryz.func24 rfl rfl (by decide) (by kernel_rfl) (by kernel_rfl)

def di7 : AC := rdc (cO Tryz.prog [] 74 Tryz.f45) _ (by conv => lhs; reduce)
def cp7 : AC := rdc (lP 0 di7) _ (by conv => lhs; reduce)
def cq4 : AC := rdc (lP 1 di7) _ (by conv => lhs; reduce)
theorem dm7 : FnText Tryz.prog 45 [] 74 2 di7 [(4, none)] := tX Tryz.call45 follows Tryz.func45 rfl rfl (by decide) (by kernel_rfl) (by kernel_rfl)

def ea2 : AC := rdc (cO Tryz.prog [] 27 Tryz.f46) _ (by conv => lhs; reduce)
def cq7 : AC := rdc (lP 0 ea2) _ (by conv => lhs; reduce)
theorem dh6 : FnText Tryz.prog 46 [] 27 2 ea2 [(4, none)] := tX Tryz.call46 follows Tryz.func46 rfl rfl (by decide) (by kernel_rfl) (by kernel_rfl)

def ac7 : AC := rdc (cO Tryz.prog [3, 5] 54 Tryz.f7) _ (by conv => lhs; reduce)
theorem ds1 : FnText Tryz.prog 7 [3, 5] 54 1 ac7 [(2, none)] := tX Tryz.call7 follows Tryz.func7 rfl rfl (by decide) (by kernel_rfl) (by kernel_rfl)

def cf3 : AC := rdc (cO Tryz.prog [] 30 Tryz.f231) _ (by conv => lhs; reduce)
def cb8 : AC := rdc (lP 0 cf3) _ (by conv => lhs; reduce)
theorem be9 : FnText Tryz.prog 231 [] 30 1 cf3 [(2, none)] := tX Tryz.call231 follows Tryz.func231 rfl rfl (by decide) (by kernel_rfl) (by kernel_rfl)

def dw1 : AC := rdc (cO Tryz.prog [0] 29 Tryz.f102) _ (by conv => lhs; reduce)
theorem cx8 : FnText Tryz.prog 102 [0] 29 0 dw1 [(0, some (9, true))] := tX Tryz.call102 follows Tryz.func102 rfl rfl (by decide) (by kernel_rfl) (by kernel_rfl)

def ea7 : AC := rdc (cO Tryz.prog [7, 9] 81 Tryz.f37) _ (by conv => lhs; reduce)
def ei3 : AC := rdc (lP 0 ea7) _ (by conv => lhs; reduce)
theorem dk0 : FnText Tryz.prog 37 [7, 9] 81 2 ea7 [(4, none), (5, none), (6, none)] := tX Tryz.call37 follows Tryz.func37 rfl rfl (by decide) (by kernel_rfl) (by kernel_rfl)

def du1 : AC := rdc (cO Tryz.prog [] 21 Tryz.f108) _ (by conv => lhs; reduce)
theorem ci8 : FnText Tryz.prog 108 [] 21 2 du1 [(4, none)] := tX Tryz.call108 follows Tryz.func108 rfl rfl (by decide) (by kernel_rfl) (by kernel_rfl)

def ef6 : AC := rdc (cO Tryz.prog [] 24 Tryz.f109) _ (by conv => lhs; reduce)
theorem cu9 : FnText Tryz.prog 109 [] 24 2 ef6 [] := tX Tryz.call109 follows Tryz.func109 rfl rfl (by decide) (by kernel_rfl) (by kernel_rfl)

def dx4 : AC := rdc (cO Tryz.prog [5] 28 Tryz.f66) _ (by conv => lhs; reduce)
def ej0 : AC := rdc (lP 0 dx4) _ (by conv => lhs; reduce)
theorem dn3 : FnText Tryz.prog 66 [5] 28 1 dx4 [(2, none)] := tX Tryz.call66 follows Tryz.func66 rfl rfl (by decide) (by kernel_rfl) (by kernel_rfl)

def dx0 : AC := rdc (cO Tryz.prog [] 14 Tryz.f138) _ (by conv => lhs; reduce)
theorem ch6 : FnText Tryz.prog 138 [] 14 2 dx0 [] := tX Tryz.call138 follows Tryz.func138 rfl rfl (by decide) (by kernel_rfl) (by kernel_rfl)

def ef4 : AC := rdc (cO Tryz.prog [] 8 Tryz.f205) _ (by conv => lhs; reduce)
theorem cj2 : FnText Tryz.prog 205 [] 8 1 ef4 [(2, none)] := tX Tryz.call205 follows Tryz.func205 rfl rfl (by decide) (by kernel_rfl) (by kernel_rfl)

def eb9 : AC := rdc (cO Tryz.prog [] 19 Tryz.f242) _ (by conv => lhs; reduce)
theorem cf7 : FnText Tryz.prog 242 [] 19 1 eb9 [(2, none)] := tX Tryz.call242 follows Tryz.func242 rfl rfl (by decide) (by kernel_rfl) (by kernel_rfl)

def ef1 : AC := rdc (cO Tryz.prog [] 25 Tryz.f243) _ (by conv => lhs; reduce)
theorem cq0 : FnText Tryz.prog 243 [] 25 1 ef1 [(2, none)] := tX Tryz.call243 follows Tryz.func243 rfl rfl (by decide) (by kernel_rfl) (by kernel_rfl)

def dd2 : AC := rdc (cO Tryz.prog [] 148 Tryz.f204) _ (by conv => lhs; reduce)
def dt4 : AC := rdc (lP 0 dd2) _ (by conv => lhs; reduce)
theorem cj5 : FnText Tryz.prog 204 [] 148 5 dd2 [] := tX Tryz.call204 follows Tryz.func204 rfl rfl (by decide) (by kernel_rfl) (by kernel_rfl)

def cc9 : AC := rdc (cO Tryz.prog [] 53 Tryz.f234) _ (by conv => lhs; reduce)
def eb1 : AC := rdc (lP 0 cc9) _ (by conv => lhs; reduce)
def dt7 : AC := rdc (lP 1 cc9) _ (by conv => lhs; reduce)
theorem cu8 : FnText Tryz.prog 234 [] 53 4 cc9 [] := tX Tryz.call234 follows Tryz.func234 rfl rfl (by decide) (by kernel_rfl) (by kernel_rfl)

def dx1 : AC := rdc (cO Tryz.prog [] 17 Tryz.f139) _ (by conv => lhs; reduce)
theorem cu7 : FnText Tryz.prog 139 [] 17 2 dx1 [(4, none)] := tX Tryz.call139 follows Tryz.func139 rfl rfl (by decide) (by kernel_rfl) (by kernel_rfl)

def ef8 : AC := rdc (cO Tryz.prog [] 20 Tryz.f141) _ (by conv => lhs; reduce)
theorem cx0 : FnText Tryz.prog 141 [] 20 2 ef8 [(4, none)] := tX Tryz.call141 follows Tryz.func141 rfl rfl (by decide) (by kernel_rfl) (by kernel_rfl)

def eh7 : AC := rdc (cO Tryz.prog [] 6 Tryz.f206) _ (by conv => lhs; reduce)
theorem cq5 : FnText Tryz.prog 206 [] 6 1 eh7 [(2, none)] := tX Tryz.call206 follows Tryz.func206 rfl rfl (by decide) (by kernel_rfl) (by kernel_rfl)

def dd7 : AC := rdc (cO Tryz.prog [] 18 Tryz.f140) _ (by conv => lhs; reduce)
def dr0 : AC := rdc (lP 0 dd7) _ (by conv => lhs; reduce)
theorem cp2 : FnText Tryz.prog 140 [] 18 1 dd7 [(2, none)] := tX Tryz.call140 follows Tryz.func140 rfl rfl (by decide) (by kernel_rfl) (by kernel_rfl)

def by8 : AC :=
 .seq (.seq (r_ [m_ 29 5,
 m_ 30 4,
 n_ 31 75 30,
 q_ 32 (.bin .lss 3 (t_ 29) (t_ 31))])
 (.cond (t_ 32)
 (.skip)
 (.exit 2)))
 (.seq (.block 3 (.seq (.region true [m_ 35 4,
 m_ 36 5,
 q_ 37 (.iaddr 2 (t_ 35) (t_ 36)),
 q_ 38 (.load 2 true (t_ 37)),
 m_ 39 4,
 m_ 40 5,
 q_ 41 (.bin .sub 3 (t_ 40) (k_ 1)),
 q_ 42 (.iaddr 2 (t_ 39) (t_ 41)),
 q_ 43 (.load 2 true (t_ 42)),
 q_ 44 (.bin .neq 87 (t_ 38) (t_ 43))])
 (.cond (t_ 44)
 (.seq (r_ [m_ 45 0,
 m_ 46 3,
 m_ 47 4,
 m_ 48 5,
 q_ 49 (.iaddr 2 (t_ 47) (t_ 48)),
 q_ 50 (.load 2 true (t_ 49)),
 q_ 51 (.iaddr 2 (t_ 45) (t_ 46)),
 ⟨none, .store 2 (t_ 51) (t_ 50), none, false⟩])
 (r_ [m_ 52 3,
 q_ 53 (.bin .add 3 (t_ 52) (k_ 1)),
 m_ 3 53]))
 (.skip))))
 (r_ [m_ 33 5,
 q_ 34 (.bin .add 3 (t_ 33) (k_ 1)),
 m_ 5 34]))
def bx5 : AC :=
 .seq (.seq (r_ [m_ 10 3,
 m_ 11 0,
 n_ 12 75 11,
 q_ 13 (.bin .lss 3 (t_ 10) (t_ 12))])
 (.cond (t_ 13)
 (.skip)
 (.exit 0)))
 (.seq (.block 1 (.seq (.region true [m_ 16 0,
 m_ 17 3,
 q_ 18 (.iaddr 2 (t_ 16) (t_ 17)),
 q_ 19 (.load 2 true (t_ 18)),
 m_ 20 0,
 m_ 21 3,
 q_ 22 (.bin .sub 3 (t_ 21) (k_ 1)),
 q_ 23 (.iaddr 2 (t_ 20) (t_ 22)),
 q_ 24 (.load 2 true (t_ 23)),
 q_ 25 (.bin .eql 87 (t_ 19) (t_ 24))])
 (.cond (t_ 25)
 (.seq (r_ [m_ 26 0,
 m_ 27 3,
 (q_ 28 (.slice 75 2 (t_ 26) (some (t_ 27)) none none)),
 m_ 4 28])
 (.seq (.seq (r_ [q_ 5 (.move (k_ 1))])
 (.block 2 (.loop by8)))
 (.seq (r_ [m_ 54 0,
 m_ 55 3,
 (q_ 56 (.slice 75 2 (t_ 54) (some (t_ 55)) none none)),
 ⟨none, .clr 2 (.agg [(.int .i64 0), (.int .i64 0)].toArray) (t_ 56), none, false⟩])
 (.seq (r_ [m_ 57 0,
 m_ 58 3,
 (q_ 59 (.slice 75 2 (t_ 57) none (some (t_ 58)) none)),
 m_ 2 59])
 (.ret)))))
 (.skip))))
 (r_ [m_ 14 3,
 q_ 15 (.bin .add 3 (t_ 14) (k_ 1)),
 m_ 3 15]))
/-- slices.Compact[[]patchbay/api.FieldRef,patchbay/api.FieldRef] -/
def eb4 : AC :=
 .seq (r_ [q_ 2 (.move z_)])
 (.seq (.seq (r_ [m_ 6 0,
 n_ 7 75 6,
 q_ 8 (.bin .lss 3 (t_ 7) (k_ 2))])
 (.cond (t_ 8)
 (.seq (r_ [m_ 9 0,
 m_ 2 9])
 (.ret))
 (.skip)))
 (.seq (.seq (r_ [q_ 3 (.move (k_ 1))])
 (.block 0 (.loop bx5)))
 (.seq (r_ [m_ 60 0,
 m_ 2 60])
 (.ret))))
theorem cs4 : FnText Tryz.prog 142 [] 61 1 eb4 [(2, none)] :=
 ⟨Tryz.call142, follows, Tryz.f142, _, Tryz.func142, rfl, rfl, by decide, by kernel_rfl, by kernel_rfl⟩

def dq8 : AC := rdc (cO Tryz.prog [5] 25 Tryz.f67) _ (by conv => lhs; reduce)
def ei6 : AC := rdc (lP 0 dq8) _ (by conv => lhs; reduce)
theorem dh0 : FnText Tryz.prog 67 [5] 25 1 dq8 [(2, none)] := tX Tryz.call67 follows Tryz.func67 rfl rfl (by decide) (by kernel_rfl) (by kernel_rfl)

def dv8 : AC := rdc (cO Tryz.prog [] 11 Tryz.f143) _ (by conv => lhs; reduce)
theorem cr5 : FnText Tryz.prog 143 [] 11 1 dv8 [] := tX Tryz.call143 follows Tryz.func143 rfl rfl (by decide) (by kernel_rfl) (by kernel_rfl)

def dd6 : AC := rdc (cO Tryz.prog [] 134 Tryz.f207) _ (by conv => lhs; reduce)
def du3 : AC := rdc (lP 0 dd6) _ (by conv => lhs; reduce)
theorem cq2 : FnText Tryz.prog 207 [] 134 4 dd6 [] := tX Tryz.call207 follows Tryz.func207 rfl rfl (by decide) (by kernel_rfl) (by kernel_rfl)

def ca9 : AC := rdc (cO Tryz.prog [] 49 Tryz.f244) _ (by conv => lhs; reduce)
def dw7 : AC := rdc (lP 0 ca9) _ (by conv => lhs; reduce)
def dw8 : AC := rdc (lP 1 ca9) _ (by conv => lhs; reduce)
theorem cg5 : FnText Tryz.prog 244 [] 49 3 ca9 [] := tX Tryz.call244 follows Tryz.func244 rfl rfl (by decide) (by kernel_rfl) (by kernel_rfl)

def ec5 : AC := rdc (cO Tryz.prog [] 17 Tryz.f250) _ (by conv => lhs; reduce)
theorem cg8 : FnText Tryz.prog 250 [] 17 2 ec5 [(4, none)] := tX Tryz.call250 follows Tryz.func250 rfl rfl (by decide) (by kernel_rfl) (by kernel_rfl)

def bt6 : AC :=
 .seq (.seq (r_ [m_ 29 5,
 m_ 30 4,
 n_ 31 29 30,
 q_ 32 (.bin .lss 3 (t_ 29) (t_ 31))])
 (.cond (t_ 32)
 (.skip)
 (.exit 2)))
 (.seq (.block 3 (.seq (.region true [m_ 35 4,
 m_ 36 5,
 q_ 37 (.iaddr 1 (t_ 35) (t_ 36)),
 l_ 38 37,
 m_ 39 4,
 m_ 40 5,
 q_ 41 (.bin .sub 3 (t_ 40) (k_ 1)),
 q_ 42 (.iaddr 1 (t_ 39) (t_ 41)),
 l_ 43 42,
 q_ 44 (.bin .neq 3 (t_ 38) (t_ 43))])
 (.cond (t_ 44)
 (.seq (r_ [m_ 45 0,
 m_ 46 3,
 m_ 47 4,
 m_ 48 5,
 q_ 49 (.iaddr 1 (t_ 47) (t_ 48)),
 l_ 50 49,
 q_ 51 (.iaddr 1 (t_ 45) (t_ 46)),
 ⟨none, .store 1 (t_ 51) (t_ 50), none, false⟩])
 (r_ [m_ 52 3,
 q_ 53 (.bin .add 3 (t_ 52) (k_ 1)),
 m_ 3 53]))
 (.skip))))
 (r_ [m_ 33 5,
 q_ 34 (.bin .add 3 (t_ 33) (k_ 1)),
 m_ 5 34]))
def bw3 : AC :=
 .seq (.seq (r_ [m_ 10 3,
 m_ 11 0,
 n_ 12 29 11,
 q_ 13 (.bin .lss 3 (t_ 10) (t_ 12))])
 (.cond (t_ 13)
 (.skip)
 (.exit 0)))
 (.seq (.block 1 (.seq (.region true [m_ 16 0,
 m_ 17 3,
 q_ 18 (.iaddr 1 (t_ 16) (t_ 17)),
 l_ 19 18,
 m_ 20 0,
 m_ 21 3,
 q_ 22 (.bin .sub 3 (t_ 21) (k_ 1)),
 q_ 23 (.iaddr 1 (t_ 20) (t_ 22)),
 l_ 24 23,
 q_ 25 (.bin .eql 3 (t_ 19) (t_ 24))])
 (.cond (t_ 25)
 (.seq (r_ [m_ 26 0,
 m_ 27 3,
 (q_ 28 (.slice 29 1 (t_ 26) (some (t_ 27)) none none)),
 m_ 4 28])
 (.seq (.seq (r_ [q_ 5 (.move (k_ 1))])
 (.block 2 (.loop bt6)))
 (.seq (r_ [m_ 54 0,
 m_ 55 3,
 (q_ 56 (.slice 29 1 (t_ 54) (some (t_ 55)) none none)),
 ⟨none, .clr 1 (.int .i64 0) (t_ 56), none, false⟩])
 (.seq (r_ [m_ 57 0,
 m_ 58 3,
 (q_ 59 (.slice 29 1 (t_ 57) none (some (t_ 58)) none)),
 m_ 2 59])
 (.ret)))))
 (.skip))))
 (r_ [m_ 14 3,
 q_ 15 (.bin .add 3 (t_ 14) (k_ 1)),
 m_ 3 15]))
/-- slices.Compact[[]int,int] -/
def dq9 : AC :=
 .seq (r_ [q_ 2 (.move z_)])
 (.seq (.seq (r_ [m_ 6 0,
 n_ 7 29 6,
 q_ 8 (.bin .lss 3 (t_ 7) (k_ 2))])
 (.cond (t_ 8)
 (.seq (r_ [m_ 9 0,
 m_ 2 9])
 (.ret))
 (.skip)))
 (.seq (.seq (r_ [q_ 3 (.move (k_ 1))])
 (.block 0 (.loop bw3)))
 (.seq (r_ [m_ 60 0,
 m_ 2 60])
 (.ret))))
theorem cy4 : FnText Tryz.prog 144 [] 61 1 dq9 [(2, none)] :=
 ⟨Tryz.call144, follows, Tryz.f144, _, Tryz.func144, rfl, rfl, by decide, by kernel_rfl, by kernel_rfl⟩

def dw4 : AC := rdc (cO Tryz.prog [1000000] 35 Tryz.f110) _ (by conv => lhs; reduce)
theorem ei4 : FnText Tryz.prog 110 [1000000] 35 1 dw4 [(2, none), (3, none), (4, none)] := tX Tryz.call110 follows Tryz.func110 rfl rfl (by decide) (by kernel_rfl) (by kernel_rfl)

def dw9 : AC := rdc (cO Tryz.prog [] 17 Tryz.f179) _ (by conv => lhs; reduce)
theorem ct4 : FnText Tryz.prog 179 [] 17 2 dw9 [(4, none)] := tX Tryz.call179 follows Tryz.func179 rfl rfl (by decide) (by kernel_rfl) (by kernel_rfl)

def do9 : AC := rdc (cO Tryz.prog [7, 9] 76 Tryz.f39) _ (by conv => lhs; reduce)
def ei2 : AC := rdc (lP 0 do9) _ (by conv => lhs; reduce)
def eh9 : AC := rdc (lP 1 do9) _ (by conv => lhs; reduce)
theorem dg7 : FnText Tryz.prog 39 [7, 9] 76 2 do9 [(4, none), (5, none), (6, none)] := tX Tryz.call39 follows Tryz.func39 rfl rfl (by decide) (by kernel_rfl) (by kernel_rfl)

def ed3 : AC := rdc (cO Tryz.prog [] 26 Tryz.f51) _ (by conv => lhs; reduce)
def ei8 : AC := rdc (lP 0 ed3) _ (by conv => lhs; reduce)
theorem dl4 : FnText Tryz.prog 51 [] 26 2 ed3 [(4, none)] := tX Tryz.call51 follows Tryz.func51 rfl rfl (by decide) (by kernel_rfl) (by kernel_rfl)

def dy9 : AC := rdc (cO Tryz.prog [] 26 Tryz.f43) _ (by conv => lhs; reduce)
def ej1 : AC := rdc (lP 0 dy9) _ (by conv => lhs; reduce)
theorem dg6 : FnText Tryz.prog 43 [] 26 2 dy9 [(4, none)] := tX Tryz.call43 follows Tryz.func43 rfl rfl (by decide) (by kernel_rfl) (by kernel_rfl)

def ec0 : AC := rdc (cO Tryz.prog [] 26 Tryz.f32) _ (by conv => lhs; reduce)
def ei1 : AC := rdc (lP 0 ec0) _ (by conv => lhs; reduce)
theorem di5 : FnText Tryz.prog 32 [] 26 2 ec0 [(4, none)] := tX Tryz.call32 follows Tryz.func32 rfl rfl (by decide) (by kernel_rfl) (by kernel_rfl)

def df8 : AC := rdc (cO Tryz.prog [] 35 Tryz.f110) _ (by conv => lhs; reduce)
theorem cd3 : FnText Tryz.prog 110 [] 35 1 df8 [(2, none), (3, none), (4, none)] := tX Tryz.call110 follows Tryz.func110 rfl rfl (by decide) (by kernel_rfl) (by kernel_rfl)

end Go.Proofs.YtmonnlkagniolaaGreat
