/-
  The text of each function of this seat, as the plain library tells it; each by the kernel's own reckoning from the program.
-/
import Derived.Test.YtmonnlkagniolaaGreatPbV
import Derived.Test.YtmonnlkagniolaaGreatRows
set_option linter.unusedVariables false
set_option maxRecDepth 100000
namespace Go.Proofs.YtmonnlkagniolaaGreat
open Go Go.Pb
theorem follows : Tryz.prog.follows .mixedOrders = true := by kernel_rfl
def ac33 : AC := rdc (cO Tryz.prog [] 120 Tryz.f33) _ (by conv => lhs; reduce)
def ac33_L1 : AC := rdc (lP 0 ac33) _ (by conv => lhs; reduce)
def ac33_L2 : AC := rdc (lP 1 ac33) _ (by conv => lhs; reduce)
def ac33_L3 : AC := rdc (lP 2 ac33) _ (by conv => lhs; reduce)
def ac33_L4 : AC := rdc (lP 3 ac33) _ (by conv => lhs; reduce)
theorem text33 : FnText Tryz.prog 33 [] 120 1 ac33 [(2, none)] := tX Tryz.call33 follows Tryz.func33 rfl rfl (by decide) (by kernel_rfl) (by kernel_rfl)

def ac34 : AC := rdc (cO Tryz.prog [1, 2, 3] 133 Tryz.f34) _ (by conv => lhs; reduce)
theorem text34 : FnText Tryz.prog 34 [1, 2, 3] 133 0 ac34 [(0, none)] := tX Tryz.call34 follows Tryz.func34 rfl rfl (by decide) (by kernel_rfl) (by kernel_rfl)

def ac221 : AC := rdc (cO Tryz.prog [] 17 Tryz.f221) _ (by conv => lhs; reduce)
theorem text221 : FnText Tryz.prog 221 [] 17 1 ac221 [(2, none)] := tX Tryz.call221 follows Tryz.func221 rfl rfl (by decide) (by kernel_rfl) (by kernel_rfl)

def ac222 : AC := rdc (cO Tryz.prog [] 20 Tryz.f222) _ (by conv => lhs; reduce)
def ac222_L1 : AC := rdc (lP 0 ac222) _ (by conv => lhs; reduce)
theorem text222 : FnText Tryz.prog 222 [] 20 2 ac222 [(4, none)] := tX Tryz.call222 follows Tryz.func222 rfl rfl (by decide) (by kernel_rfl) (by kernel_rfl)

def ac224 : AC := rdc (cO Tryz.prog [] 9 Tryz.f224) _ (by conv => lhs; reduce)
theorem text224 : FnText Tryz.prog 224 [] 9 1 ac224 [(2, none)] := tX Tryz.call224 follows Tryz.func224 rfl rfl (by decide) (by kernel_rfl) (by kernel_rfl)

def ac223 : AC := rdc (cO Tryz.prog [] 13 Tryz.f223) _ (by conv => lhs; reduce)
theorem text223 : FnText Tryz.prog 223 [] 13 1 ac223 [(2, none)] := tX Tryz.call223 follows Tryz.func223 rfl rfl (by decide) (by kernel_rfl) (by kernel_rfl)

def ac169 : AC := rdc (cO Tryz.prog [] 22 Tryz.f169) _ (by conv => lhs; reduce)
theorem text169 : FnText Tryz.prog 169 [] 22 1 ac169 [(2, none)] := tX Tryz.call169 follows Tryz.func169 rfl rfl (by decide) (by kernel_rfl) (by kernel_rfl)

def ac171 : AC := rdc (cO Tryz.prog [] 9 Tryz.f171) _ (by conv => lhs; reduce)
theorem text171 : FnText Tryz.prog 171 [] 9 2 ac171 [(3, none)] := tX Tryz.call171 follows Tryz.func171 rfl rfl (by decide) (by kernel_rfl) (by kernel_rfl)

def ac225 : AC := rdc (cO Tryz.prog [] 19 Tryz.f225) _ (by conv => lhs; reduce)
def ac225_L1 : AC := rdc (lP 0 ac225) _ (by conv => lhs; reduce)
theorem text225 : FnText Tryz.prog 225 [] 19 2 ac225 [(4, none)] := tX Tryz.call225 follows Tryz.func225 rfl rfl (by decide) (by kernel_rfl) (by kernel_rfl)

def ac170 : AC := rdc (cO Tryz.prog [] 9 Tryz.f170) _ (by conv => lhs; reduce)
theorem text170 : FnText Tryz.prog 170 [] 9 2 ac170 [(4, none)] := tX Tryz.call170 follows Tryz.func170 rfl rfl (by decide) (by kernel_rfl) (by kernel_rfl)

def ac103 : AC := rdc (cO Tryz.prog [4] 51 Tryz.f103) _ (by conv => lhs; reduce)
def ac103_L1 : AC := rdc (lP 0 ac103) _ (by conv => lhs; reduce)
theorem text103 : FnText Tryz.prog 103 [4] 51 1 ac103 [(2, none)] := tX Tryz.call103 follows Tryz.func103 rfl rfl (by decide) (by kernel_rfl) (by kernel_rfl)

def ac172 : AC := rdc (cO Tryz.prog [] 46 Tryz.f172) _ (by conv => lhs; reduce)
theorem text172 : FnText Tryz.prog 172 [] 46 2 ac172 [(4, none), (5, none)] := tX Tryz.call172 follows Tryz.func172 rfl rfl (by decide) (by kernel_rfl) (by kernel_rfl)

def ac267 : AC := rdc (cO Tryz.prog [] 25 Tryz.f267) _ (by conv => lhs; reduce)
theorem text267 : FnText Tryz.prog 267 [] 25 1 ac267 [(2, none)] := tX Tryz.call267 follows Tryz.func267 rfl rfl (by decide) (by kernel_rfl) (by kernel_rfl)

def ac287 : AC := rdc (cO Tryz.prog [] 11 Tryz.f287) _ (by conv => lhs; reduce)
theorem text287 : FnText Tryz.prog 287 [] 11 1 ac287 [(2, none), (3, none)] := tX Tryz.call287 follows Tryz.func287 rfl rfl (by decide) (by kernel_rfl) (by kernel_rfl)

def ac181 : AC := rdc (cO Tryz.prog [] 18 Tryz.f181) _ (by conv => lhs; reduce)
def ac181_L1 : AC := rdc (lP 0 ac181) _ (by conv => lhs; reduce)
theorem text181 : FnText Tryz.prog 181 [] 18 1 ac181 [(2, none)] := tX Tryz.call181 follows Tryz.func181 rfl rfl (by decide) (by kernel_rfl) (by kernel_rfl)

def ac182 : AC := rdc (cO Tryz.prog [] 10 Tryz.f182) _ (by conv => lhs; reduce)
theorem text182 : FnText Tryz.prog 182 [] 10 1 ac182 [(2, none)] := tX Tryz.call182 follows Tryz.func182 rfl rfl (by decide) (by kernel_rfl) (by kernel_rfl)

def ac288 : AC := rdc (cO Tryz.prog [6] 45 Tryz.f288) _ (by conv => lhs; reduce)
theorem text288 : FnText Tryz.prog 288 [6] 45 3 ac288 [(6, some (2, true)), (7, none)] := tX Tryz.call288 follows Tryz.func288 rfl rfl (by decide) (by kernel_rfl) (by kernel_rfl)

def ac268 : AC := rdc (cO Tryz.prog [8] 90 Tryz.f268) _ (by conv => lhs; reduce)
theorem text268 : FnText Tryz.prog 268 [8] 90 2 ac268 [(4, none), (5, none)] := tX Tryz.call268 follows Tryz.func268 rfl rfl (by decide) (by kernel_rfl) (by kernel_rfl)

def ac269 : AC := rdc (cO Tryz.prog [] 91 Tryz.f269) _ (by conv => lhs; reduce)
theorem text269 : FnText Tryz.prog 269 [] 91 2 ac269 [(4, none), (5, none)] := tX Tryz.call269 follows Tryz.func269 rfl rfl (by decide) (by kernel_rfl) (by kernel_rfl)

def ac226 : AC := rdc (cO Tryz.prog [10] 73 Tryz.f226) _ (by conv => lhs; reduce)
def ac226_L1 : AC := rdc (lP 0 ac226) _ (by conv => lhs; reduce)
theorem text226 : FnText Tryz.prog 226 [10] 73 3 ac226 [(6, none), (7, none), (8, none)] := tX Tryz.call226 follows Tryz.func226 rfl rfl (by decide) (by kernel_rfl) (by kernel_rfl)

def ac174 : AC := rdc (cO Tryz.prog [] 27 Tryz.f174) _ (by conv => lhs; reduce)
theorem text174 : FnText Tryz.prog 174 [] 27 2 ac174 [(4, none), (5, none)] := tX Tryz.call174 follows Tryz.func174 rfl rfl (by decide) (by kernel_rfl) (by kernel_rfl)

def ac173 : AC := rdc (cO Tryz.prog [] 24 Tryz.f173) _ (by conv => lhs; reduce)
theorem text173 : FnText Tryz.prog 173 [] 24 3 ac173 [(6, none)] := tX Tryz.call173 follows Tryz.func173 rfl rfl (by decide) (by kernel_rfl) (by kernel_rfl)

def ac104 : AC := rdc (cO Tryz.prog [5] 105 Tryz.f104) _ (by conv => lhs; reduce)
theorem text104 : FnText Tryz.prog 104 [5] 105 2 ac104 [(4, none)] := tX Tryz.call104 follows Tryz.func104 rfl rfl (by decide) (by kernel_rfl) (by kernel_rfl)

def ac35 : AC := rdc (cO Tryz.prog [6, 7, 9] 50 Tryz.f35) _ (by conv => lhs; reduce)
def ac35_L1 : AC := rdc (lP 0 ac35) _ (by conv => lhs; reduce)
theorem text35 : FnText Tryz.prog 35 [6, 7, 9] 50 2 ac35 [(4, none), (5, none)] := tX Tryz.call35 follows Tryz.func35 rfl rfl (by decide) (by kernel_rfl) (by kernel_rfl)

def ac185 : AC := rdc (cO Tryz.prog [] 17 Tryz.f185) _ (by conv => lhs; reduce)
def ac185_L1 : AC := rdc (lP 0 ac185) _ (by conv => lhs; reduce)
theorem text185 : FnText Tryz.prog 185 [] 17 1 ac185 [(2, none)] := tX Tryz.call185 follows Tryz.func185 rfl rfl (by decide) (by kernel_rfl) (by kernel_rfl)

def ac186 : AC := rdc (cO Tryz.prog [] 17 Tryz.f186) _ (by conv => lhs; reduce)
def ac186_L1 : AC := rdc (lP 0 ac186) _ (by conv => lhs; reduce)
theorem text186 : FnText Tryz.prog 186 [] 17 1 ac186 [(2, none)] := tX Tryz.call186 follows Tryz.func186 rfl rfl (by decide) (by kernel_rfl) (by kernel_rfl)

def ac187 : AC := rdc (cO Tryz.prog [] 17 Tryz.f187) _ (by conv => lhs; reduce)
def ac187_L1 : AC := rdc (lP 0 ac187) _ (by conv => lhs; reduce)
theorem text187 : FnText Tryz.prog 187 [] 17 1 ac187 [(2, none)] := tX Tryz.call187 follows Tryz.func187 rfl rfl (by decide) (by kernel_rfl) (by kernel_rfl)

def ac116 : AC := rdc (cO Tryz.prog [2, 3, 1000003] 36 Tryz.f116) _ (by conv => lhs; reduce)
def ac116_L1 : AC := rdc (lP 0 ac116) _ (by conv => lhs; reduce)
theorem text116 : FnText Tryz.prog 116 [2, 3, 1000003] 36 1 ac116 [(2, some (4, true))] := tX Tryz.call116 follows Tryz.func116 rfl rfl (by decide) (by kernel_rfl) (by kernel_rfl)

def ac233 : AC := rdc (cO Tryz.prog [4] 19 Tryz.f233) _ (by conv => lhs; reduce)
theorem text233 : FnText Tryz.prog 233 [4] 19 2 ac233 [(4, some (2, true))] := tX Tryz.call233 follows Tryz.func233 rfl rfl (by decide) (by kernel_rfl) (by kernel_rfl)

def ac203 : AC := rdc (cO Tryz.prog [] 14 Tryz.f203) _ (by conv => lhs; reduce)
theorem text203 : FnText Tryz.prog 203 [] 14 2 ac203 [(4, none)] := tX Tryz.call203 follows Tryz.func203 rfl rfl (by decide) (by kernel_rfl) (by kernel_rfl)

def ac202 : AC := rdc (cO Tryz.prog [4] 19 Tryz.f202) _ (by conv => lhs; reduce)
theorem text202 : FnText Tryz.prog 202 [4] 19 2 ac202 [(4, some (2, true))] := tX Tryz.call202 follows Tryz.func202 rfl rfl (by decide) (by kernel_rfl) (by kernel_rfl)

def ac136 : AC := rdc (cO Tryz.prog [] 18 Tryz.f136) _ (by conv => lhs; reduce)
theorem text136 : FnText Tryz.prog 136 [] 18 2 ac136 [(4, none)] := tX Tryz.call136 follows Tryz.func136 rfl rfl (by decide) (by kernel_rfl) (by kernel_rfl)

def ac270 : AC := rdc (cO Tryz.prog [] 13 Tryz.f270) _ (by conv => lhs; reduce)
theorem text270 : FnText Tryz.prog 270 [] 13 2 ac270 [(4, none)] := tX Tryz.call270 follows Tryz.func270 rfl rfl (by decide) (by kernel_rfl) (by kernel_rfl)

def ac271 : AC := rdc (cO Tryz.prog [] 19 Tryz.f271) _ (by conv => lhs; reduce)
theorem text271 : FnText Tryz.prog 271 [] 19 2 ac271 [(4, none)] := tX Tryz.call271 follows Tryz.func271 rfl rfl (by decide) (by kernel_rfl) (by kernel_rfl)

def ac272 : AC := rdc (cO Tryz.prog [] 19 Tryz.f272) _ (by conv => lhs; reduce)
theorem text272 : FnText Tryz.prog 272 [] 19 2 ac272 [(4, none)] := tX Tryz.call272 follows Tryz.func272 rfl rfl (by decide) (by kernel_rfl) (by kernel_rfl)

def ac227 : AC := rdc (cO Tryz.prog [] 36 Tryz.f227) _ (by conv => lhs; reduce)
theorem text227 : FnText Tryz.prog 227 [] 36 2 ac227 [(4, none), (5, none)] := tX Tryz.call227 follows Tryz.func227 rfl rfl (by decide) (by kernel_rfl) (by kernel_rfl)

def ac188 : AC := rdc (cO Tryz.prog [8, 9] 38 Tryz.f188) _ (by conv => lhs; reduce)
theorem text188 : FnText Tryz.prog 188 [8, 9] 38 4 ac188 [(8, some (4, true))] := tX Tryz.call188 follows Tryz.func188 rfl rfl (by decide) (by kernel_rfl) (by kernel_rfl)

def ac117 : AC := rdc (cO Tryz.prog [] 30 Tryz.f117) _ (by conv => lhs; reduce)
def ac117_L1 : AC := rdc (lP 0 ac117) _ (by conv => lhs; reduce)
theorem text117 : FnText Tryz.prog 117 [] 30 1 ac117 [(2, none)] := tX Tryz.call117 follows Tryz.func117 rfl rfl (by decide) (by kernel_rfl) (by kernel_rfl)

def ac114 : AC := rdc (cO Tryz.prog [] 14 Tryz.f114) _ (by conv => lhs; reduce)
theorem text114 : FnText Tryz.prog 114 [] 14 2 ac114 [(4, none)] := tX Tryz.call114 follows Tryz.func114 rfl rfl (by decide) (by kernel_rfl) (by kernel_rfl)

def ac41 : AC := rdc (cO Tryz.prog [] 49 Tryz.f41) _ (by conv => lhs; reduce)
def ac41_L1 : AC := rdc (lP 0 ac41) _ (by conv => lhs; reduce)
theorem text41 : FnText Tryz.prog 41 [] 49 2 ac41 [(4, none)] := tX Tryz.call41 follows Tryz.func41 rfl rfl (by decide) (by kernel_rfl) (by kernel_rfl)

def ac294 : AC := rdc (cO Tryz.prog [] 20 Tryz.f294) _ (by conv => lhs; reduce)
theorem text294 : FnText Tryz.prog 294 [] 20 2 ac294 [(4, none)] := tX Tryz.call294 follows Tryz.func294 rfl rfl (by decide) (by kernel_rfl) (by kernel_rfl)

def ac289 : AC := rdc (cO Tryz.prog [4] 82 Tryz.f289) _ (by conv => lhs; reduce)
theorem text289 : FnText Tryz.prog 289 [4] 82 2 ac289 [(4, some (2, true))] := tX Tryz.call289 follows Tryz.func289 rfl rfl (by decide) (by kernel_rfl) (by kernel_rfl)

def ac295 : AC := rdc (cO Tryz.prog [] 10 Tryz.f295) _ (by conv => lhs; reduce)
theorem text295 : FnText Tryz.prog 295 [] 10 2 ac295 [(4, none)] := tX Tryz.call295 follows Tryz.func295 rfl rfl (by decide) (by kernel_rfl) (by kernel_rfl)

def ac296 : AC := rdc (cO Tryz.prog [] 14 Tryz.f296) _ (by conv => lhs; reduce)
theorem text296 : FnText Tryz.prog 296 [] 14 3 ac296 [(6, none)] := tX Tryz.call296 follows Tryz.func296 rfl rfl (by decide) (by kernel_rfl) (by kernel_rfl)

def ac297 : AC := rdc (cO Tryz.prog [] 14 Tryz.f297) _ (by conv => lhs; reduce)
theorem text297 : FnText Tryz.prog 297 [] 14 3 ac297 [(6, none)] := tX Tryz.call297 follows Tryz.func297 rfl rfl (by decide) (by kernel_rfl) (by kernel_rfl)

def ac298 : AC := rdc (cO Tryz.prog [] 27 Tryz.f298) _ (by conv => lhs; reduce)
theorem text298 : FnText Tryz.prog 298 [] 27 3 ac298 [(6, none)] := tX Tryz.call298 follows Tryz.func298 rfl rfl (by decide) (by kernel_rfl) (by kernel_rfl)

def ac290 : AC := rdc (cO Tryz.prog [4] 51 Tryz.f290) _ (by conv => lhs; reduce)
theorem text290 : FnText Tryz.prog 290 [4] 51 2 ac290 [(4, some (2, true))] := tX Tryz.call290 follows Tryz.func290 rfl rfl (by decide) (by kernel_rfl) (by kernel_rfl)

def ac299 : AC := rdc (cO Tryz.prog [] 13 Tryz.f299) _ (by conv => lhs; reduce)
theorem text299 : FnText Tryz.prog 299 [] 13 3 ac299 [(6, none)] := tX Tryz.call299 follows Tryz.func299 rfl rfl (by decide) (by kernel_rfl) (by kernel_rfl)

def ac300 : AC := rdc (cO Tryz.prog [] 13 Tryz.f300) _ (by conv => lhs; reduce)
theorem text300 : FnText Tryz.prog 300 [] 13 3 ac300 [(6, none)] := tX Tryz.call300 follows Tryz.func300 rfl rfl (by decide) (by kernel_rfl) (by kernel_rfl)

def ac301 : AC := rdc (cO Tryz.prog [] 32 Tryz.f301) _ (by conv => lhs; reduce)
theorem text301 : FnText Tryz.prog 301 [] 32 4 ac301 [(8, none), (9, none)] := tX Tryz.call301 follows Tryz.func301 rfl rfl (by decide) (by kernel_rfl) (by kernel_rfl)

def ac302 : AC := rdc (cO Tryz.prog [2] 6 Tryz.f302) _ (by conv => lhs; reduce)
theorem text302 : FnText Tryz.prog 302 [2] 6 1 ac302 [(2, some (2, true))] := tX Tryz.call302 follows Tryz.func302 rfl rfl (by decide) (by kernel_rfl) (by kernel_rfl)

def ac291 : AC := rdc (cO Tryz.prog [6] 99 Tryz.f291) _ (by conv => lhs; reduce)
theorem text291 : FnText Tryz.prog 291 [6] 99 3 ac291 [(6, some (2, true))] := tX Tryz.call291 follows Tryz.func291 rfl rfl (by decide) (by kernel_rfl) (by kernel_rfl)

def ac273 : AC := rdc (cO Tryz.prog [2, 3, 4, 5, 6, 7, 8, 1000000] 62 Tryz.f273) _ (by conv => lhs; reduce)
theorem text273 : FnText Tryz.prog 273 [2, 3, 4, 5, 6, 7, 8, 1000000] 62 1 ac273 [(2, some (2, true))] := tX Tryz.call273 follows Tryz.func273 rfl rfl (by decide) (by kernel_rfl) (by kernel_rfl)

def ac228 : AC := rdc (cO Tryz.prog [11] 27 Tryz.f228) _ (by conv => lhs; reduce)
theorem text228 : FnText Tryz.prog 228 [11] 27 4 ac228 [(8, none)] := tX Tryz.call228 follows Tryz.func228 rfl rfl (by decide) (by kernel_rfl) (by kernel_rfl)

def ac189 : AC := rdc (cO Tryz.prog [] 19 Tryz.f189) _ (by conv => lhs; reduce)
theorem text189 : FnText Tryz.prog 189 [] 19 2 ac189 [(4, none)] := tX Tryz.call189 follows Tryz.func189 rfl rfl (by decide) (by kernel_rfl) (by kernel_rfl)

def ac118 : AC := rdc (cO Tryz.prog [] 23 Tryz.f118) _ (by conv => lhs; reduce)
theorem text118 : FnText Tryz.prog 118 [] 23 2 ac118 [] := tX Tryz.call118 follows Tryz.func118 rfl rfl (by decide) (by kernel_rfl) (by kernel_rfl)

def ac274 : AC := rdc (cO Tryz.prog [] 13 Tryz.f274) _ (by conv => lhs; reduce)
theorem text274 : FnText Tryz.prog 274 [] 13 2 ac274 [(4, none)] := tX Tryz.call274 follows Tryz.func274 rfl rfl (by decide) (by kernel_rfl) (by kernel_rfl)

def ac275 : AC := rdc (cO Tryz.prog [] 13 Tryz.f275) _ (by conv => lhs; reduce)
theorem text275 : FnText Tryz.prog 275 [] 13 2 ac275 [(4, none)] := tX Tryz.call275 follows Tryz.func275 rfl rfl (by decide) (by kernel_rfl) (by kernel_rfl)

def ac229 : AC := rdc (cO Tryz.prog [10, 11] 49 Tryz.f229) _ (by conv => lhs; reduce)
theorem text229 : FnText Tryz.prog 229 [10, 11] 49 5 ac229 [(10, some (4, true))] := tX Tryz.call229 follows Tryz.func229 rfl rfl (by decide) (by kernel_rfl) (by kernel_rfl)

def ac190 : AC := rdc (cO Tryz.prog [6] 11 Tryz.f190) _ (by conv => lhs; reduce)
theorem text190 : FnText Tryz.prog 190 [6] 11 3 ac190 [(6, some (4, true))] := tX Tryz.call190 follows Tryz.func190 rfl rfl (by decide) (by kernel_rfl) (by kernel_rfl)

def ac119 : AC := rdc (cO Tryz.prog [] 19 Tryz.f119) _ (by conv => lhs; reduce)
theorem text119 : FnText Tryz.prog 119 [] 19 2 ac119 [] := tX Tryz.call119 follows Tryz.func119 rfl rfl (by decide) (by kernel_rfl) (by kernel_rfl)

def ac191 : AC := rdc (cO Tryz.prog [6] 11 Tryz.f191) _ (by conv => lhs; reduce)
theorem text191 : FnText Tryz.prog 191 [6] 11 3 ac191 [(6, some (4, true))] := tX Tryz.call191 follows Tryz.func191 rfl rfl (by decide) (by kernel_rfl) (by kernel_rfl)

def ac120 : AC := rdc (cO Tryz.prog [] 19 Tryz.f120) _ (by conv => lhs; reduce)
theorem text120 : FnText Tryz.prog 120 [] 19 2 ac120 [] := tX Tryz.call120 follows Tryz.func120 rfl rfl (by decide) (by kernel_rfl) (by kernel_rfl)

def ac230 : AC := rdc (cO Tryz.prog [] 45 Tryz.f230) _ (by conv => lhs; reduce)
theorem text230 : FnText Tryz.prog 230 [] 45 3 ac230 [(6, none)] := tX Tryz.call230 follows Tryz.func230 rfl rfl (by decide) (by kernel_rfl) (by kernel_rfl)

def ac192 : AC := rdc (cO Tryz.prog [] 25 Tryz.f192) _ (by conv => lhs; reduce)
theorem text192 : FnText Tryz.prog 192 [] 25 4 ac192 [(8, none)] := tX Tryz.call192 follows Tryz.func192 rfl rfl (by decide) (by kernel_rfl) (by kernel_rfl)

def ac121 : AC := rdc (cO Tryz.prog [] 37 Tryz.f121) _ (by conv => lhs; reduce)
theorem text121 : FnText Tryz.prog 121 [] 37 2 ac121 [] := tX Tryz.call121 follows Tryz.func121 rfl rfl (by decide) (by kernel_rfl) (by kernel_rfl)

def ac193 : AC := rdc (cO Tryz.prog [] 48 Tryz.f193) _ (by conv => lhs; reduce)
theorem text193 : FnText Tryz.prog 193 [] 48 5 ac193 [(10, none)] := tX Tryz.call193 follows Tryz.func193 rfl rfl (by decide) (by kernel_rfl) (by kernel_rfl)

def ac122 : AC := rdc (cO Tryz.prog [] 27 Tryz.f122) _ (by conv => lhs; reduce)
theorem text122 : FnText Tryz.prog 122 [] 27 2 ac122 [] := tX Tryz.call122 follows Tryz.func122 rfl rfl (by decide) (by kernel_rfl) (by kernel_rfl)

def ac44 : AC := rdc (cO Tryz.prog [8, 22, 13, 15] 94 Tryz.f44) _ (by conv => lhs; reduce)
def ac44_L1 : AC := rdc (lP 0 ac44) _ (by conv => lhs; reduce)
theorem text44 : FnText Tryz.prog 44 [8, 22, 13, 15] 94 4 ac44 [(8, some (4, true)), (9, none)] := tX Tryz.call44 follows Tryz.func44 rfl rfl (by decide) (by kernel_rfl) (by kernel_rfl)

def ac24 : AC := rdc (cO Tryz.prog [] 26 Tryz.f24) _ (by conv => lhs; reduce)
def ac24_L1 : AC := rdc (lP 0 ac24) _ (by conv => lhs; reduce)
theorem text24 : FnText Tryz.prog 24 [] 26 2 ac24 [(4, none)] := tX Tryz.call24 follows Tryz.func24 rfl rfl (by decide) (by kernel_rfl) (by kernel_rfl)

def ac45 : AC := rdc (cO Tryz.prog [] 74 Tryz.f45) _ (by conv => lhs; reduce)
def ac45_L1 : AC := rdc (lP 0 ac45) _ (by conv => lhs; reduce)
def ac45_L2 : AC := rdc (lP 1 ac45) _ (by conv => lhs; reduce)
theorem text45 : FnText Tryz.prog 45 [] 74 2 ac45 [(4, none)] := tX Tryz.call45 follows Tryz.func45 rfl rfl (by decide) (by kernel_rfl) (by kernel_rfl)

def ac46 : AC := rdc (cO Tryz.prog [] 27 Tryz.f46) _ (by conv => lhs; reduce)
def ac46_L1 : AC := rdc (lP 0 ac46) _ (by conv => lhs; reduce)
theorem text46 : FnText Tryz.prog 46 [] 27 2 ac46 [(4, none)] := tX Tryz.call46 follows Tryz.func46 rfl rfl (by decide) (by kernel_rfl) (by kernel_rfl)

def ac11 : AC := rdc (cO Tryz.prog [8, 9, 10, 12, 14] 140 Tryz.f11) _ (by conv => lhs; reduce)
theorem text11 : FnText Tryz.prog 11 [8, 9, 10, 12, 14] 140 2 ac11 [(4, none)] := tX Tryz.call11 follows Tryz.func11 rfl rfl (by decide) (by kernel_rfl) (by kernel_rfl)

def ac231 : AC := rdc (cO Tryz.prog [] 30 Tryz.f231) _ (by conv => lhs; reduce)
def ac231_L1 : AC := rdc (lP 0 ac231) _ (by conv => lhs; reduce)
theorem text231 : FnText Tryz.prog 231 [] 30 1 ac231 [(2, none)] := tX Tryz.call231 follows Tryz.func231 rfl rfl (by decide) (by kernel_rfl) (by kernel_rfl)

def ac102 : AC := rdc (cO Tryz.prog [0] 29 Tryz.f102) _ (by conv => lhs; reduce)
theorem text102 : FnText Tryz.prog 102 [0] 29 0 ac102 [(0, some (9, true))] := tX Tryz.call102 follows Tryz.func102 rfl rfl (by decide) (by kernel_rfl) (by kernel_rfl)

def ac37 : AC := rdc (cO Tryz.prog [7, 9] 81 Tryz.f37) _ (by conv => lhs; reduce)
def ac37_L1 : AC := rdc (lP 0 ac37) _ (by conv => lhs; reduce)
theorem text37 : FnText Tryz.prog 37 [7, 9] 81 2 ac37 [(4, none), (5, none), (6, none)] := tX Tryz.call37 follows Tryz.func37 rfl rfl (by decide) (by kernel_rfl) (by kernel_rfl)

def ac108 : AC := rdc (cO Tryz.prog [] 21 Tryz.f108) _ (by conv => lhs; reduce)
theorem text108 : FnText Tryz.prog 108 [] 21 2 ac108 [(4, none)] := tX Tryz.call108 follows Tryz.func108 rfl rfl (by decide) (by kernel_rfl) (by kernel_rfl)

def ac109 : AC := rdc (cO Tryz.prog [] 24 Tryz.f109) _ (by conv => lhs; reduce)
theorem text109 : FnText Tryz.prog 109 [] 24 2 ac109 [] := tX Tryz.call109 follows Tryz.func109 rfl rfl (by decide) (by kernel_rfl) (by kernel_rfl)

def ac66 : AC := rdc (cO Tryz.prog [5] 28 Tryz.f66) _ (by conv => lhs; reduce)
def ac66_L1 : AC := rdc (lP 0 ac66) _ (by conv => lhs; reduce)
theorem text66 : FnText Tryz.prog 66 [5] 28 1 ac66 [(2, none)] := tX Tryz.call66 follows Tryz.func66 rfl rfl (by decide) (by kernel_rfl) (by kernel_rfl)

def ac138 : AC := rdc (cO Tryz.prog [] 14 Tryz.f138) _ (by conv => lhs; reduce)
theorem text138 : FnText Tryz.prog 138 [] 14 2 ac138 [] := tX Tryz.call138 follows Tryz.func138 rfl rfl (by decide) (by kernel_rfl) (by kernel_rfl)

def ac205 : AC := rdc (cO Tryz.prog [] 8 Tryz.f205) _ (by conv => lhs; reduce)
theorem text205 : FnText Tryz.prog 205 [] 8 1 ac205 [(2, none)] := tX Tryz.call205 follows Tryz.func205 rfl rfl (by decide) (by kernel_rfl) (by kernel_rfl)

def ac242 : AC := rdc (cO Tryz.prog [] 19 Tryz.f242) _ (by conv => lhs; reduce)
theorem text242 : FnText Tryz.prog 242 [] 19 1 ac242 [(2, none)] := tX Tryz.call242 follows Tryz.func242 rfl rfl (by decide) (by kernel_rfl) (by kernel_rfl)

def ac243 : AC := rdc (cO Tryz.prog [] 25 Tryz.f243) _ (by conv => lhs; reduce)
theorem text243 : FnText Tryz.prog 243 [] 25 1 ac243 [(2, none)] := tX Tryz.call243 follows Tryz.func243 rfl rfl (by decide) (by kernel_rfl) (by kernel_rfl)

def ac204 : AC := rdc (cO Tryz.prog [] 148 Tryz.f204) _ (by conv => lhs; reduce)
def ac204_L1 : AC := rdc (lP 0 ac204) _ (by conv => lhs; reduce)
theorem text204 : FnText Tryz.prog 204 [] 148 5 ac204 [] := tX Tryz.call204 follows Tryz.func204 rfl rfl (by decide) (by kernel_rfl) (by kernel_rfl)

def ac234 : AC := rdc (cO Tryz.prog [] 53 Tryz.f234) _ (by conv => lhs; reduce)
def ac234_L1 : AC := rdc (lP 0 ac234) _ (by conv => lhs; reduce)
def ac234_L2 : AC := rdc (lP 1 ac234) _ (by conv => lhs; reduce)
theorem text234 : FnText Tryz.prog 234 [] 53 4 ac234 [] := tX Tryz.call234 follows Tryz.func234 rfl rfl (by decide) (by kernel_rfl) (by kernel_rfl)

def ac139 : AC := rdc (cO Tryz.prog [] 17 Tryz.f139) _ (by conv => lhs; reduce)
theorem text139 : FnText Tryz.prog 139 [] 17 2 ac139 [(4, none)] := tX Tryz.call139 follows Tryz.func139 rfl rfl (by decide) (by kernel_rfl) (by kernel_rfl)

def ac141 : AC := rdc (cO Tryz.prog [] 20 Tryz.f141) _ (by conv => lhs; reduce)
theorem text141 : FnText Tryz.prog 141 [] 20 2 ac141 [(4, none)] := tX Tryz.call141 follows Tryz.func141 rfl rfl (by decide) (by kernel_rfl) (by kernel_rfl)

def ac206 : AC := rdc (cO Tryz.prog [] 6 Tryz.f206) _ (by conv => lhs; reduce)
theorem text206 : FnText Tryz.prog 206 [] 6 1 ac206 [(2, none)] := tX Tryz.call206 follows Tryz.func206 rfl rfl (by decide) (by kernel_rfl) (by kernel_rfl)

def ac140 : AC := rdc (cO Tryz.prog [] 18 Tryz.f140) _ (by conv => lhs; reduce)
def ac140_L1 : AC := rdc (lP 0 ac140) _ (by conv => lhs; reduce)
theorem text140 : FnText Tryz.prog 140 [] 18 1 ac140 [(2, none)] := tX Tryz.call140 follows Tryz.func140 rfl rfl (by decide) (by kernel_rfl) (by kernel_rfl)

def ac142_L2 : AC :=
  .seq (.seq (.region false [⟨(some 29), .move (.tmp 5), none, false⟩,
          ⟨(some 30), .move (.tmp 4), none, false⟩,
          ⟨(some 31), .bi .len [75].toArray 3 [(.tmp 30)], none, false⟩,
          ⟨(some 32), .bin .lss 3 (.tmp 29) (.tmp 31), none, false⟩])
      (.cond (.tmp 32)
        (.skip)
        (.exit 2)))
    (.seq (.block 3 (.seq (.region true [⟨(some 35), .move (.tmp 4), none, false⟩,
              ⟨(some 36), .move (.tmp 5), none, false⟩,
              ⟨(some 37), .iaddr 2 (.tmp 35) (.tmp 36), none, false⟩,
              ⟨(some 38), .load 2 true (.tmp 37), none, false⟩,
              ⟨(some 39), .move (.tmp 4), none, false⟩,
              ⟨(some 40), .move (.tmp 5), none, false⟩,
              ⟨(some 41), .bin .sub 3 (.tmp 40) (.const (.int .i64 1)), none, false⟩,
              ⟨(some 42), .iaddr 2 (.tmp 39) (.tmp 41), none, false⟩,
              ⟨(some 43), .load 2 true (.tmp 42), none, false⟩,
              ⟨(some 44), .bin .neq 87 (.tmp 38) (.tmp 43), none, false⟩])
          (.cond (.tmp 44)
            (.seq (.region false [⟨(some 45), .move (.tmp 0), none, false⟩,
                  ⟨(some 46), .move (.tmp 3), none, false⟩,
                  ⟨(some 47), .move (.tmp 4), none, false⟩,
                  ⟨(some 48), .move (.tmp 5), none, false⟩,
                  ⟨(some 49), .iaddr 2 (.tmp 47) (.tmp 48), none, false⟩,
                  ⟨(some 50), .load 2 true (.tmp 49), none, false⟩,
                  ⟨(some 51), .iaddr 2 (.tmp 45) (.tmp 46), none, false⟩,
                  ⟨none, .store 2 (.tmp 51) (.tmp 50), none, false⟩])
              (.region false [⟨(some 52), .move (.tmp 3), none, false⟩,
                  ⟨(some 53), .bin .add 3 (.tmp 52) (.const (.int .i64 1)), none, false⟩,
                  ⟨(some 3), .move (.tmp 53), none, false⟩]))
            (.skip))))
      (.region false [⟨(some 33), .move (.tmp 5), none, false⟩,
          ⟨(some 34), .bin .add 3 (.tmp 33) (.const (.int .i64 1)), none, false⟩,
          ⟨(some 5), .move (.tmp 34), none, false⟩]))
def ac142_L1 : AC :=
  .seq (.seq (.region false [⟨(some 10), .move (.tmp 3), none, false⟩,
          ⟨(some 11), .move (.tmp 0), none, false⟩,
          ⟨(some 12), .bi .len [75].toArray 3 [(.tmp 11)], none, false⟩,
          ⟨(some 13), .bin .lss 3 (.tmp 10) (.tmp 12), none, false⟩])
      (.cond (.tmp 13)
        (.skip)
        (.exit 0)))
    (.seq (.block 1 (.seq (.region true [⟨(some 16), .move (.tmp 0), none, false⟩,
              ⟨(some 17), .move (.tmp 3), none, false⟩,
              ⟨(some 18), .iaddr 2 (.tmp 16) (.tmp 17), none, false⟩,
              ⟨(some 19), .load 2 true (.tmp 18), none, false⟩,
              ⟨(some 20), .move (.tmp 0), none, false⟩,
              ⟨(some 21), .move (.tmp 3), none, false⟩,
              ⟨(some 22), .bin .sub 3 (.tmp 21) (.const (.int .i64 1)), none, false⟩,
              ⟨(some 23), .iaddr 2 (.tmp 20) (.tmp 22), none, false⟩,
              ⟨(some 24), .load 2 true (.tmp 23), none, false⟩,
              ⟨(some 25), .bin .eql 87 (.tmp 19) (.tmp 24), none, false⟩])
          (.cond (.tmp 25)
            (.seq (.region false [⟨(some 26), .move (.tmp 0), none, false⟩,
                  ⟨(some 27), .move (.tmp 3), none, false⟩,
                  ⟨(some 28), .slice 75 2 (.tmp 26) (some (.tmp 27)) none none, none, false⟩,
                  ⟨(some 4), .move (.tmp 28), none, false⟩])
              (.seq (.seq (.region false [⟨(some 5), .move (.const (.int .i64 1)), none, false⟩])
                  (.block 2 (.loop ac142_L2)))
                (.seq (.region false [⟨(some 54), .move (.tmp 0), none, false⟩,
                      ⟨(some 55), .move (.tmp 3), none, false⟩,
                      ⟨(some 56), .slice 75 2 (.tmp 54) (some (.tmp 55)) none none, none, false⟩,
                      ⟨none, .clr 2 (.agg [(.int .i64 0), (.int .i64 0)].toArray) (.tmp 56), none, false⟩])
                  (.seq (.region false [⟨(some 57), .move (.tmp 0), none, false⟩,
                        ⟨(some 58), .move (.tmp 3), none, false⟩,
                        ⟨(some 59), .slice 75 2 (.tmp 57) none (some (.tmp 58)) none, none, false⟩,
                        ⟨(some 2), .move (.tmp 59), none, false⟩])
                    (.ret)))))
            (.skip))))
      (.region false [⟨(some 14), .move (.tmp 3), none, false⟩,
          ⟨(some 15), .bin .add 3 (.tmp 14) (.const (.int .i64 1)), none, false⟩,
          ⟨(some 3), .move (.tmp 15), none, false⟩]))
/-- slices.Compact[[]patchbay/api.FieldRef,patchbay/api.FieldRef] -/
def ac142 : AC :=
  .seq (.region false [⟨(some 2), .move (.const (.slice none 0 0)), none, false⟩])
    (.seq (.seq (.region false [⟨(some 6), .move (.tmp 0), none, false⟩,
            ⟨(some 7), .bi .len [75].toArray 3 [(.tmp 6)], none, false⟩,
            ⟨(some 8), .bin .lss 3 (.tmp 7) (.const (.int .i64 2)), none, false⟩])
        (.cond (.tmp 8)
          (.seq (.region false [⟨(some 9), .move (.tmp 0), none, false⟩,
                ⟨(some 2), .move (.tmp 9), none, false⟩])
            (.ret))
          (.skip)))
      (.seq (.seq (.region false [⟨(some 3), .move (.const (.int .i64 1)), none, false⟩])
          (.block 0 (.loop ac142_L1)))
        (.seq (.region false [⟨(some 60), .move (.tmp 0), none, false⟩,
              ⟨(some 2), .move (.tmp 60), none, false⟩])
          (.ret))))
theorem text142 : FnText Tryz.prog 142 [] 61 1 ac142 [(2, none)] :=
  ⟨Tryz.call142, follows, Tryz.f142, _, Tryz.func142, rfl, rfl, by decide, by kernel_rfl, by kernel_rfl⟩

def ac67 : AC := rdc (cO Tryz.prog [5] 25 Tryz.f67) _ (by conv => lhs; reduce)
def ac67_L1 : AC := rdc (lP 0 ac67) _ (by conv => lhs; reduce)
theorem text67 : FnText Tryz.prog 67 [5] 25 1 ac67 [(2, none)] := tX Tryz.call67 follows Tryz.func67 rfl rfl (by decide) (by kernel_rfl) (by kernel_rfl)

def ac143 : AC := rdc (cO Tryz.prog [] 11 Tryz.f143) _ (by conv => lhs; reduce)
theorem text143 : FnText Tryz.prog 143 [] 11 1 ac143 [] := tX Tryz.call143 follows Tryz.func143 rfl rfl (by decide) (by kernel_rfl) (by kernel_rfl)

def ac207 : AC := rdc (cO Tryz.prog [] 134 Tryz.f207) _ (by conv => lhs; reduce)
def ac207_L1 : AC := rdc (lP 0 ac207) _ (by conv => lhs; reduce)
theorem text207 : FnText Tryz.prog 207 [] 134 4 ac207 [] := tX Tryz.call207 follows Tryz.func207 rfl rfl (by decide) (by kernel_rfl) (by kernel_rfl)

def ac244 : AC := rdc (cO Tryz.prog [] 49 Tryz.f244) _ (by conv => lhs; reduce)
def ac244_L1 : AC := rdc (lP 0 ac244) _ (by conv => lhs; reduce)
def ac244_L2 : AC := rdc (lP 1 ac244) _ (by conv => lhs; reduce)
theorem text244 : FnText Tryz.prog 244 [] 49 3 ac244 [] := tX Tryz.call244 follows Tryz.func244 rfl rfl (by decide) (by kernel_rfl) (by kernel_rfl)

def ac250 : AC := rdc (cO Tryz.prog [] 17 Tryz.f250) _ (by conv => lhs; reduce)
theorem text250 : FnText Tryz.prog 250 [] 17 2 ac250 [(4, none)] := tX Tryz.call250 follows Tryz.func250 rfl rfl (by decide) (by kernel_rfl) (by kernel_rfl)

def ac144_L2 : AC :=
  .seq (.seq (.region false [⟨(some 29), .move (.tmp 5), none, false⟩,
          ⟨(some 30), .move (.tmp 4), none, false⟩,
          ⟨(some 31), .bi .len [29].toArray 3 [(.tmp 30)], none, false⟩,
          ⟨(some 32), .bin .lss 3 (.tmp 29) (.tmp 31), none, false⟩])
      (.cond (.tmp 32)
        (.skip)
        (.exit 2)))
    (.seq (.block 3 (.seq (.region true [⟨(some 35), .move (.tmp 4), none, false⟩,
              ⟨(some 36), .move (.tmp 5), none, false⟩,
              ⟨(some 37), .iaddr 1 (.tmp 35) (.tmp 36), none, false⟩,
              ⟨(some 38), .load 1 false (.tmp 37), none, false⟩,
              ⟨(some 39), .move (.tmp 4), none, false⟩,
              ⟨(some 40), .move (.tmp 5), none, false⟩,
              ⟨(some 41), .bin .sub 3 (.tmp 40) (.const (.int .i64 1)), none, false⟩,
              ⟨(some 42), .iaddr 1 (.tmp 39) (.tmp 41), none, false⟩,
              ⟨(some 43), .load 1 false (.tmp 42), none, false⟩,
              ⟨(some 44), .bin .neq 3 (.tmp 38) (.tmp 43), none, false⟩])
          (.cond (.tmp 44)
            (.seq (.region false [⟨(some 45), .move (.tmp 0), none, false⟩,
                  ⟨(some 46), .move (.tmp 3), none, false⟩,
                  ⟨(some 47), .move (.tmp 4), none, false⟩,
                  ⟨(some 48), .move (.tmp 5), none, false⟩,
                  ⟨(some 49), .iaddr 1 (.tmp 47) (.tmp 48), none, false⟩,
                  ⟨(some 50), .load 1 false (.tmp 49), none, false⟩,
                  ⟨(some 51), .iaddr 1 (.tmp 45) (.tmp 46), none, false⟩,
                  ⟨none, .store 1 (.tmp 51) (.tmp 50), none, false⟩])
              (.region false [⟨(some 52), .move (.tmp 3), none, false⟩,
                  ⟨(some 53), .bin .add 3 (.tmp 52) (.const (.int .i64 1)), none, false⟩,
                  ⟨(some 3), .move (.tmp 53), none, false⟩]))
            (.skip))))
      (.region false [⟨(some 33), .move (.tmp 5), none, false⟩,
          ⟨(some 34), .bin .add 3 (.tmp 33) (.const (.int .i64 1)), none, false⟩,
          ⟨(some 5), .move (.tmp 34), none, false⟩]))
def ac144_L1 : AC :=
  .seq (.seq (.region false [⟨(some 10), .move (.tmp 3), none, false⟩,
          ⟨(some 11), .move (.tmp 0), none, false⟩,
          ⟨(some 12), .bi .len [29].toArray 3 [(.tmp 11)], none, false⟩,
          ⟨(some 13), .bin .lss 3 (.tmp 10) (.tmp 12), none, false⟩])
      (.cond (.tmp 13)
        (.skip)
        (.exit 0)))
    (.seq (.block 1 (.seq (.region true [⟨(some 16), .move (.tmp 0), none, false⟩,
              ⟨(some 17), .move (.tmp 3), none, false⟩,
              ⟨(some 18), .iaddr 1 (.tmp 16) (.tmp 17), none, false⟩,
              ⟨(some 19), .load 1 false (.tmp 18), none, false⟩,
              ⟨(some 20), .move (.tmp 0), none, false⟩,
              ⟨(some 21), .move (.tmp 3), none, false⟩,
              ⟨(some 22), .bin .sub 3 (.tmp 21) (.const (.int .i64 1)), none, false⟩,
              ⟨(some 23), .iaddr 1 (.tmp 20) (.tmp 22), none, false⟩,
              ⟨(some 24), .load 1 false (.tmp 23), none, false⟩,
              ⟨(some 25), .bin .eql 3 (.tmp 19) (.tmp 24), none, false⟩])
          (.cond (.tmp 25)
            (.seq (.region false [⟨(some 26), .move (.tmp 0), none, false⟩,
                  ⟨(some 27), .move (.tmp 3), none, false⟩,
                  ⟨(some 28), .slice 29 1 (.tmp 26) (some (.tmp 27)) none none, none, false⟩,
                  ⟨(some 4), .move (.tmp 28), none, false⟩])
              (.seq (.seq (.region false [⟨(some 5), .move (.const (.int .i64 1)), none, false⟩])
                  (.block 2 (.loop ac144_L2)))
                (.seq (.region false [⟨(some 54), .move (.tmp 0), none, false⟩,
                      ⟨(some 55), .move (.tmp 3), none, false⟩,
                      ⟨(some 56), .slice 29 1 (.tmp 54) (some (.tmp 55)) none none, none, false⟩,
                      ⟨none, .clr 1 (.int .i64 0) (.tmp 56), none, false⟩])
                  (.seq (.region false [⟨(some 57), .move (.tmp 0), none, false⟩,
                        ⟨(some 58), .move (.tmp 3), none, false⟩,
                        ⟨(some 59), .slice 29 1 (.tmp 57) none (some (.tmp 58)) none, none, false⟩,
                        ⟨(some 2), .move (.tmp 59), none, false⟩])
                    (.ret)))))
            (.skip))))
      (.region false [⟨(some 14), .move (.tmp 3), none, false⟩,
          ⟨(some 15), .bin .add 3 (.tmp 14) (.const (.int .i64 1)), none, false⟩,
          ⟨(some 3), .move (.tmp 15), none, false⟩]))
/-- slices.Compact[[]int,int] -/
def ac144 : AC :=
  .seq (.region false [⟨(some 2), .move (.const (.slice none 0 0)), none, false⟩])
    (.seq (.seq (.region false [⟨(some 6), .move (.tmp 0), none, false⟩,
            ⟨(some 7), .bi .len [29].toArray 3 [(.tmp 6)], none, false⟩,
            ⟨(some 8), .bin .lss 3 (.tmp 7) (.const (.int .i64 2)), none, false⟩])
        (.cond (.tmp 8)
          (.seq (.region false [⟨(some 9), .move (.tmp 0), none, false⟩,
                ⟨(some 2), .move (.tmp 9), none, false⟩])
            (.ret))
          (.skip)))
      (.seq (.seq (.region false [⟨(some 3), .move (.const (.int .i64 1)), none, false⟩])
          (.block 0 (.loop ac144_L1)))
        (.seq (.region false [⟨(some 60), .move (.tmp 0), none, false⟩,
              ⟨(some 2), .move (.tmp 60), none, false⟩])
          (.ret))))
theorem text144 : FnText Tryz.prog 144 [] 61 1 ac144 [(2, none)] :=
  ⟨Tryz.call144, follows, Tryz.f144, _, Tryz.func144, rfl, rfl, by decide, by kernel_rfl, by kernel_rfl⟩

def ac110 : AC := rdc (cO Tryz.prog [1000000] 35 Tryz.f110) _ (by conv => lhs; reduce)
theorem text110 : FnText Tryz.prog 110 [1000000] 35 1 ac110 [(2, none), (3, none), (4, none)] := tX Tryz.call110 follows Tryz.func110 rfl rfl (by decide) (by kernel_rfl) (by kernel_rfl)

def ac179 : AC := rdc (cO Tryz.prog [] 17 Tryz.f179) _ (by conv => lhs; reduce)
theorem text179 : FnText Tryz.prog 179 [] 17 2 ac179 [(4, none)] := tX Tryz.call179 follows Tryz.func179 rfl rfl (by decide) (by kernel_rfl) (by kernel_rfl)

def ac39 : AC := rdc (cO Tryz.prog [7, 9] 76 Tryz.f39) _ (by conv => lhs; reduce)
def ac39_L1 : AC := rdc (lP 0 ac39) _ (by conv => lhs; reduce)
def ac39_L2 : AC := rdc (lP 1 ac39) _ (by conv => lhs; reduce)
theorem text39 : FnText Tryz.prog 39 [7, 9] 76 2 ac39 [(4, none), (5, none), (6, none)] := tX Tryz.call39 follows Tryz.func39 rfl rfl (by decide) (by kernel_rfl) (by kernel_rfl)

def ac51 : AC := rdc (cO Tryz.prog [] 26 Tryz.f51) _ (by conv => lhs; reduce)
def ac51_L1 : AC := rdc (lP 0 ac51) _ (by conv => lhs; reduce)
theorem text51 : FnText Tryz.prog 51 [] 26 2 ac51 [(4, none)] := tX Tryz.call51 follows Tryz.func51 rfl rfl (by decide) (by kernel_rfl) (by kernel_rfl)

def ac43 : AC := rdc (cO Tryz.prog [] 26 Tryz.f43) _ (by conv => lhs; reduce)
def ac43_L1 : AC := rdc (lP 0 ac43) _ (by conv => lhs; reduce)
theorem text43 : FnText Tryz.prog 43 [] 26 2 ac43 [(4, none)] := tX Tryz.call43 follows Tryz.func43 rfl rfl (by decide) (by kernel_rfl) (by kernel_rfl)

def ac32 : AC := rdc (cO Tryz.prog [] 26 Tryz.f32) _ (by conv => lhs; reduce)
def ac32_L1 : AC := rdc (lP 0 ac32) _ (by conv => lhs; reduce)
theorem text32 : FnText Tryz.prog 32 [] 26 2 ac32 [(4, none)] := tX Tryz.call32 follows Tryz.func32 rfl rfl (by decide) (by kernel_rfl) (by kernel_rfl)

def ac110r : AC := rdc (cO Tryz.prog [] 35 Tryz.f110) _ (by conv => lhs; reduce)
theorem text110r : FnText Tryz.prog 110 [] 35 1 ac110r [(2, none), (3, none), (4, none)] := tX Tryz.call110 follows Tryz.func110 rfl rfl (by decide) (by kernel_rfl) (by kernel_rfl)

end Go.Proofs.YtmonnlkagniolaaGreat
