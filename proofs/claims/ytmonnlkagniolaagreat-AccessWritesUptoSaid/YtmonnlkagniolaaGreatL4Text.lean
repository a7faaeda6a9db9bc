/-
 The text of each function of this seat,as the plain library tells it;each by the kernel's own reckoning from the program.
-/
import Derived.Test.YtmonnlkagniolaaGreatPbV
import Derived.Test.YtmonnlkagniolaaGreatRows
set_option linter.unusedVariables false
set_option maxRecDepth 100000
namespace Go.Proofs.YtmonnlkagniolaaGreat
open Go Go.Pb
abbrev q_(d:Nat)(o:AOp):AOper:=⟨some d,o,none,false⟩
abbrev t_(n:Nat):Operand:= .tmp n
abbrev k_(i:Int):Operand:= .const (.int .i64 i)
abbrev m_(d n:Nat):AOper:=⟨some d,.move (.tmp n),none,false⟩
abbrev l_(d n:Nat):AOper:=⟨some d,.load 1 false (.tmp n),none,false⟩
abbrev f_(d a n:Nat):AOper:=⟨some d,.faddr a 1 false (.tmp n),none,false⟩
abbrev n_(d a n:Nat):AOper:=⟨some d,.bi .len [a].toArray 3 [.tmp n],none,false⟩
abbrev r_(l:List AOper):AC:= .region false l
abbrev z_:Operand:= .const (.slice none 0 0)
theorem follows:Tryz.prog.follows .mixedOrders=true:=by kernel_rfl
def eu9:AC:=rdc (cO Tryz.prog [] 50 Tryz.f56) _ U
def dl1:AC:=rdc (lP 0 eu9) _ U
theorem ep7:FnText Tryz.prog 56 [] 50 2 eu9 [(4,none)]:=tX Tryz.call56 follows Tryz.func56 O O OO Z Z
def ez9:AC:=rdc (cO Tryz.prog [] 29 Tryz.f57) _ U
def db2:AC:=rdc (lP 0 ez9) _ U
theorem ef1:FnText Tryz.prog 57 [] 29 1 ez9 [(2,none)]:=tX Tryz.call57 follows Tryz.func57 O O OO Z Z
def ev1:AC:=rdc (cO Tryz.prog [] 45 Tryz.f58) _ U
def dn8:AC:=rdc (lP 0 ev1) _ U
theorem eo4:FnText Tryz.prog 58 [] 45 1 ev1 [(2,none)]:=tX Tryz.call58 follows Tryz.func58 O O OO Z Z
def fm2:AC:=rdc (cO Tryz.prog [] 19 Tryz.f59) _ U
theorem eh1:FnText Tryz.prog 59 [] 19 1 fm2 [(2,none)]:=tX Tryz.call59 follows Tryz.func59 O O OO Z Z
def ct2:AC:=rdc (cO Tryz.prog [] 145 Tryz.f13) _ U
def de3:AC:=rdc (lP 0 ct2) _ U
def dm0:AC:=rdc (lP 1 ct2) _ U
def dm6:AC:=rdc (lP 2 ct2) _ U
def dn2:AC:=rdc (lP 3 ct2) _ U
theorem el7:FnText Tryz.prog 13 [] 145 1 ct2 [(2,none)]:=tX Tryz.call13 follows Tryz.func13 O O OO Z Z
def ff7:AC:=rdc (cO Tryz.prog [] 17 Tryz.f175) _ U
theorem dm7:FnText Tryz.prog 175 [] 17 1 ff7 [(2,none)]:=tX Tryz.call175 follows Tryz.func175 O O OO Z Z
def ew4:AC:=rdc (cO Tryz.prog [] 9 Tryz.f176) _ U
theorem dr4:FnText Tryz.prog 176 [] 9 1 ew4 [(2,none)]:=tX Tryz.call176 follows Tryz.func176 O O OO Z Z
def dy6:AC:=rdc (cO Tryz.prog [] 41 Tryz.f105) _ U
def cr3:AC:=rdc (lP 0 dy6) _ U
theorem dk9:FnText Tryz.prog 105 [] 41 1 dy6 [(2,none)]:=tX Tryz.call105 follows Tryz.func105 O O OO Z Z
def ew8:AC:=rdc (cO Tryz.prog [8] 14 Tryz.f148) _ U
theorem do0:FnText Tryz.prog 148 [8] 14 4 ew8 [(8,some (4,true))]:=tX Tryz.call148 follows Tryz.func148 O O OO Z Z
def fn9:AC:=rdc (cO Tryz.prog [2] 34 Tryz.f75) _ U
theorem ep6:FnText Tryz.prog 75 [2] 34 1 fn9 [(2,some (4,true))]:=tX Tryz.call75 follows Tryz.func75 O O OO Z Z
def ea0:AC:=rdc (cO Tryz.prog [] 23 Tryz.f208) _ U
def cx8:AC:=rdc (lP 0 ea0) _ U
theorem dg1:FnText Tryz.prog 208 [] 23 2 ea0 [(4,none),(5,none)]:=tX Tryz.call208 follows Tryz.func208 O O OO Z Z
def dx8:AC:=rdc (cO Tryz.prog [5] 67 Tryz.f149) _ U
def cu7:AC:=rdc (lP 0 dx8) _ U
theorem dh1:FnText Tryz.prog 149 [5] 67 1 dx8 [(2,none)]:=tX Tryz.call149 follows Tryz.func149 O O OO Z Z
def eg7:AC:=rdc (cO Tryz.prog [2] 58 Tryz.f76) _ U
def dp6:AC:=rdc (lP 0 eg7) _ U
def du7:AC:=rdc (lP 1 eg7) _ U
theorem eo5:FnText Tryz.prog 76 [2] 58 1 eg7 [(2,some (4,true))]:=tX Tryz.call76 follows Tryz.func76 O O OO Z Z
def ec8:AC:=rdc (cO Tryz.prog [] 43 Tryz.f150) _ U
def cm8:AC:=rdc (lP 0 ec8) _ U
theorem da8:FnText Tryz.prog 150 [] 43 2 ec8 [(4,none)]:=tX Tryz.call150 follows Tryz.func150 O O OO Z Z
def ep0:AC:=rdc (cO Tryz.prog [2] 58 Tryz.f77) _ U
def do9:AC:=rdc (lP 0 ep0) _ U
def de1:AC:=rdc (lP 1 ep0) _ U
theorem eo3:FnText Tryz.prog 77 [2] 58 1 ep0 [(2,some (4,true))]:=tX Tryz.call77 follows Tryz.func77 O O OO Z Z
def fj2:AC:=rdc (cO Tryz.prog [] 23 Tryz.f151) _ U
theorem cy6:FnText Tryz.prog 151 [] 23 1 fj2 [(2,none)]:=tX Tryz.call151 follows Tryz.func151 O O OO Z Z
def em5:AC:=rdc (cO Tryz.prog [2] 47 Tryz.f78) _ U
def cz2:AC:=rdc (lP 0 em5) _ U
def ds6:AC:=rdc (lP 1 em5) _ U
theorem ee2:FnText Tryz.prog 78 [2] 47 1 em5 [(2,some (4,true))]:=tX Tryz.call78 follows Tryz.func78 O O OO Z Z
def cv7:AC:=rdc (cO Tryz.prog [] 50 Tryz.f106) _ U
def cg6:AC:=rdc (lP 0 cv7) _ U
def cn2:AC:=rdc (lP 1 cv7) _ U
theorem dh2:FnText Tryz.prog 106 [] 50 1 cv7 [(2,none)]:=tX Tryz.call106 follows Tryz.func106 O O OO Z Z
def fm4:AC:=rdc (cO Tryz.prog [4] 13 Tryz.f85) _ U
theorem eh6:FnText Tryz.prog 85 [4] 13 2 fm4 [(4,some (10,true))]:=tX Tryz.call85 follows Tryz.func85 O O OO Z Z
def fe1:AC:=rdc (cO Tryz.prog [] 46 Tryz.f177) _ U
theorem du8:FnText Tryz.prog 177 [] 46 2 fe1 [(4,none),(5,none)]:=tX Tryz.call177 follows Tryz.func177 O O OO Z Z
def et7:AC:=rdc (cO Tryz.prog [] 27 Tryz.f219) _ U
theorem dk6:FnText Tryz.prog 219 [] 27 1 et7 [(2,none)]:=tX Tryz.call219 follows Tryz.func219 O O OO Z Z
def ew0:AC:=rdc (cO Tryz.prog [] 11 Tryz.f285) _ U
theorem dl4:FnText Tryz.prog 285 [] 11 1 ew0 [(2,none),(3,none)]:=tX Tryz.call285 follows Tryz.func285 O O OO Z Z
def ev4:AC:=rdc (cO Tryz.prog [] 9 Tryz.f183) _ U
theorem dl3:FnText Tryz.prog 183 [] 9 1 ev4 [(2,none)]:=tX Tryz.call183 follows Tryz.func183 O O OO Z Z
def eb2:AC:=rdc (cO Tryz.prog [] 13 Tryz.f184) _ U
def ci8:AC:=rdc (lP 0 eb2) _ U
theorem dv2:FnText Tryz.prog 184 [] 13 1 eb2 [(2,none)]:=tX Tryz.call184 follows Tryz.func184 O O OO Z Z
def ev9:AC:=rdc (cO Tryz.prog [] 10 Tryz.f286) _ U
theorem da9:FnText Tryz.prog 286 [] 10 1 ev9 [(2,none)]:=tX Tryz.call286 follows Tryz.func286 O O OO Z Z
def ey6:AC:=rdc (cO Tryz.prog [] 91 Tryz.f258) _ U
theorem di5:FnText Tryz.prog 258 [] 91 2 ey6 [(4,none),(5,none)]:=tX Tryz.call258 follows Tryz.func258 O O OO Z Z
def fb8:AC:=rdc (cO Tryz.prog [] 105 Tryz.f259) _ U
theorem dr0:FnText Tryz.prog 259 [] 105 2 fb8 [(4,none),(5,none)]:=tX Tryz.call259 follows Tryz.func259 O O OO Z Z
def ed3:AC:=rdc (cO Tryz.prog [] 85 Tryz.f216) _ U
def cl1:AC:=rdc (lP 0 ed3) _ U
theorem dn3:FnText Tryz.prog 216 [] 85 3 ed3 [(6,none),(7,none),(8,none)]:=tX Tryz.call216 follows Tryz.func216 O O OO Z Z
def fd6:AC:=rdc (cO Tryz.prog [] 29 Tryz.f156) _ U
theorem dh8:FnText Tryz.prog 156 [] 29 2 fd6 [(4,none),(5,none)]:=tX Tryz.call156 follows Tryz.func156 O O OO Z Z
def ey4:AC:=rdc (cO Tryz.prog [] 23 Tryz.f178) _ U
theorem dj9:FnText Tryz.prog 178 [] 23 3 ey4 [(6,none)]:=tX Tryz.call178 follows Tryz.func178 O O OO Z Z
def fg7:AC:=rdc (cO Tryz.prog [] 111 Tryz.f107) _ U
theorem db8:FnText Tryz.prog 107 [] 111 3 fg7 [(6,none)]:=tX Tryz.call107 follows Tryz.func107 O O OO Z Z
def fe6:AC:=rdc (cO Tryz.prog [6] 68 Tryz.f36) _ U
def du1:AC:=rdc (lP 0 fe6) _ U
theorem eo9:FnText Tryz.prog 36 [6] 68 2 fe6 [(4,none),(5,none)]:=tX Tryz.call36 follows Tryz.func36 O O OO Z Z
def eh7:AC:=rdc (cO Tryz.prog [2] 47 Tryz.f79) _ U
def dp7:AC:=rdc (lP 0 eh7) _ U
def dr5:AC:=rdc (lP 1 eh7) _ U
theorem er8:FnText Tryz.prog 79 [2] 47 1 eh7 [(2,some (4,true))]:=tX Tryz.call79 follows Tryz.func79 O O OO Z Z
def ex5:AC:=rdc (cO Tryz.prog [] 63 Tryz.f253) _ U
theorem dp3:FnText Tryz.prog 253 [] 63 2 ex5 [(4,none)]:=tX Tryz.call253 follows Tryz.func253 O O OO Z Z
def eb8:AC:=rdc (cO Tryz.prog [] 62 Tryz.f209) _ U
def cw5:AC:=rdc (lP 0 eb8) _ U
theorem dq4:FnText Tryz.prog 209 [] 62 2 eb8 [(4,none),(5,none)]:=tX Tryz.call209 follows Tryz.func209 O O OO Z Z
def dy7:AC:=rdc (cO Tryz.prog [] 19 Tryz.f254) _ U
def ch5:AC:=rdc (lP 0 dy7) _ U
theorem cz8:FnText Tryz.prog 254 [] 19 2 dy7 [(4,none)]:=tX Tryz.call254 follows Tryz.func254 O O OO Z Z
def fa8:AC:=rdc (cO Tryz.prog [] 14 Tryz.f115) _ U
theorem df4:FnText Tryz.prog 115 [] 14 2 fa8 [(4,none)]:=tX Tryz.call115 follows Tryz.func115 O O OO Z Z
def fc5:AC:=rdc (cO Tryz.prog [] 49 Tryz.f42) _ U
def dw3:AC:=rdc (lP 0 fc5) _ U
theorem eo1:FnText Tryz.prog 42 [] 49 2 fc5 [(4,none)]:=tX Tryz.call42 follows Tryz.func42 O O OO Z Z
def ea4:AC:=rdc (cO Tryz.prog [] 53 Tryz.f210) _ U
def cu6:AC:=rdc (lP 0 ea4) _ U
theorem dn0:FnText Tryz.prog 210 [] 53 2 ea4 [(4,none)]:=tX Tryz.call210 follows Tryz.func210 O O OO Z Z
def fc4:AC:=rdc (cO Tryz.prog [6] 64 Tryz.f152) _ U
theorem di3:FnText Tryz.prog 152 [6] 64 2 fc4 [(4,none),(5,none)]:=tX Tryz.call152 follows Tryz.func152 O O OO Z Z
def eq3:AC:=rdc (cO Tryz.prog [2] 47 Tryz.f80) _ U
def dd9:AC:=rdc (lP 0 eq3) _ U
def df8:AC:=rdc (lP 1 eq3) _ U
theorem ep8:FnText Tryz.prog 80 [2] 47 1 eq3 [(2,some (4,true))]:=tX Tryz.call80 follows Tryz.func80 O O OO Z Z
def fn0:AC:=rdc (cO Tryz.prog [] 63 Tryz.f84) _ U
theorem ej4:FnText Tryz.prog 84 [] 63 2 fn0 [(4,none)]:=tX Tryz.call84 follows Tryz.func84 O O OO Z Z
def fe8:AC:=rdc (cO Tryz.prog [] 18 Tryz.f83) _ U
def da5:AC:=rdc (lP 0 fe8) _ U
theorem el5:FnText Tryz.prog 83 [] 18 2 fe8 [(4,none)]:=tX Tryz.call83 follows Tryz.func83 O O OO Z Z
def fb2:AC:=rdc (cO Tryz.prog [] 25 Tryz.f256) _ U
theorem dj4:FnText Tryz.prog 256 [] 25 3 fb2 [(6,none)]:=tX Tryz.call256 follows Tryz.func256 O O OO Z Z
def dy1:AC:=rdc (cO Tryz.prog [6,9] 60 Tryz.f255) _ U
def cv0:AC:=rdc (lP 0 dy1) _ U
theorem do7:FnText Tryz.prog 255 [6,9] 60 2 dy1 [(4,none),(5,none)]:=tX Tryz.call255 follows Tryz.func255 O O OO Z Z
def co6:AC:=rdc (cO Tryz.prog [6] 102 Tryz.f211) _ U
def ck6:AC:=rdc (lP 0 co6) _ U
def cg4:AC:=rdc (lP 1 co6) _ U
theorem de4:FnText Tryz.prog 211 [6] 102 2 co6 [(4,none),(5,none)]:=tX Tryz.call211 follows Tryz.func211 O O OO Z Z
def dz7:AC:=rdc (cO Tryz.prog [] 34 Tryz.f153) _ U
def ck0:AC:=rdc (lP 0 dz7) _ U
theorem dj0:FnText Tryz.prog 153 [] 34 1 dz7 [(2,none),(3,none),(4,none)]:=tX Tryz.call153 follows Tryz.func153 O O OO Z Z
def dz0:AC:=rdc (cO Tryz.prog [] 28 Tryz.f212) _ U
def ct5:AC:=rdc (lP 0 dz0) _ U
theorem du5:FnText Tryz.prog 212 [] 28 1 dz0 [(2,none)]:=tX Tryz.call212 follows Tryz.func212 O O OO Z Z
def ea3:AC:=rdc (cO Tryz.prog [] 28 Tryz.f213) _ U
def cw7:AC:=rdc (lP 0 ea3) _ U
theorem du4:FnText Tryz.prog 213 [] 28 1 ea3 [(2,none)]:=tX Tryz.call213 follows Tryz.func213 O O OO Z Z
def dw8:AC:=rdc (cO Tryz.prog [] 35 Tryz.f214) _ U
def cv6:AC:=rdc (lP 0 dw8) _ U
theorem ds3:FnText Tryz.prog 214 [] 35 1 dw8 [(2,none)]:=tX Tryz.call214 follows Tryz.func214 O O OO Z Z
def fc0:AC:=rdc (cO Tryz.prog [] 11 Tryz.f284) _ U
theorem dd8:FnText Tryz.prog 284 [] 11 1 fc0 [(2,none)]:=tX Tryz.call284 follows Tryz.func284 O O OO Z Z
def eb3:AC:=rdc (cO Tryz.prog [] 29 Tryz.f257) _ U
def cq2:AC:=rdc (lP 0 eb3) _ U
theorem dn4:FnText Tryz.prog 257 [] 29 2 eb3 [(4,none)]:=tX Tryz.call257 follows Tryz.func257 O O OO Z Z
def ew1:AC:=rdc (cO Tryz.prog [7] 72 Tryz.f215) _ U
theorem dw2:FnText Tryz.prog 215 [7] 72 3 ew1 [(6,none)]:=tX Tryz.call215 follows Tryz.func215 O O OO Z Z
def eb5:AC:=rdc (cO Tryz.prog [] 34 Tryz.f154) _ U
def ch7:AC:=rdc (lP 0 eb5) _ U
theorem di8:FnText Tryz.prog 154 [] 34 1 eb5 [(2,none),(3,none)]:=tX Tryz.call154 follows Tryz.func154 O O OO Z Z
def ct0:AC:=rdc (cO Tryz.prog [] 52 Tryz.f155) _ U
def cp0:AC:=rdc (lP 0 ct0) _ U
def cp4:AC:=rdc (lP 1 ct0) _ U
theorem ds1:FnText Tryz.prog 155 [] 52 1 ct0 [(2,none),(3,none)]:=tX Tryz.call155 follows Tryz.func155 O O OO Z Z
def fn6:AC:=rdc (cO Tryz.prog [2] 39 Tryz.f81) _ U
theorem en7:FnText Tryz.prog 81 [2] 39 1 fn6 [(2,some (4,true))]:=tX Tryz.call81 follows Tryz.func81 O O OO Z Z
def fn8:AC:=rdc (cO Tryz.prog [2,3] 37 Tryz.f20) _ U
theorem ef3:FnText Tryz.prog 20 [2,3] 37 1 fn8 [(2,some (4,true))]:=tX Tryz.call20 follows Tryz.func20 O O OO Z Z
def ev8:AC:=rdc (cO Tryz.prog [] 52 Tryz.f82) _ U
def dd2:AC:=rdc (lP 0 ev8) _ U
theorem ed6:FnText Tryz.prog 82 [] 52 2 ev8 [(4,none)]:=tX Tryz.call82 follows Tryz.func82 O O OO Z Z
def cc5:AC:=rdc (cO Tryz.prog [] 98 Tryz.f21) _ U
def ds9:AC:=rdc (lP 0 cc5) _ U
def dj1:AC:=rdc (lP 1 cc5) _ U
def dr3:AC:=rdc (lP 2 cc5) _ U
def do4:AC:=rdc (lP 3 cc5) _ U
def dt2:AC:=rdc (lP 4 cc5) _ U
theorem eg3:FnText Tryz.prog 21 [] 98 2 cc5 [(4,none)]:=tX Tryz.call21 follows Tryz.func21 O O OO Z Z
def ew3:AC:=rdc (cO Tryz.prog [] 18 Tryz.f22) _ U
def dm9:AC:=rdc (lP 0 ew3) _ U
theorem eq4:FnText Tryz.prog 22 [] 18 2 ew3 [(4,none)]:=tX Tryz.call22 follows Tryz.func22 O O OO Z Z
def fn7:AC:=rdc (cO Tryz.prog [1,2] 63 Tryz.f14) _ U
theorem em2:FnText Tryz.prog 14 [1,2] 63 0 fn7 [(0,none)]:=tX Tryz.call14 follows Tryz.func14 O O OO Z Z
def ey3:AC:=rdc (cO Tryz.prog [4] 24 Tryz.f69) _ U
theorem cl5:FnText Tryz.prog 69 [4] 24 2 ey3 [(4,some (6,true)),(5,none)]:=tX Tryz.call69 follows Tryz.func69 O O OO Z Z
def ez0:AC:=rdc (cO Tryz.prog [] 17 Tryz.f221) _ U
theorem ca7:FnText Tryz.prog 221 [] 17 1 ez0 [(2,none)]:=tX Tryz.call221 follows Tryz.func221 O O OO Z Z
def ec4:AC:=rdc (cO Tryz.prog [] 20 Tryz.f222) _ U
def ct6:AC:=rdc (lP 0 ec4) _ U
theorem cb5:FnText Tryz.prog 222 [] 20 2 ec4 [(4,none)]:=tX Tryz.call222 follows Tryz.func222 O O OO Z Z
def ew5:AC:=rdc (cO Tryz.prog [] 9 Tryz.f224) _ U
theorem bu3:FnText Tryz.prog 224 [] 9 1 ew5 [(2,none)]:=tX Tryz.call224 follows Tryz.func224 O O OO Z Z
def fg1:AC:=rdc (cO Tryz.prog [] 13 Tryz.f223) _ U
theorem bv8:FnText Tryz.prog 223 [] 13 1 fg1 [(2,none)]:=tX Tryz.call223 follows Tryz.func223 O O OO Z Z
def fb9:AC:=rdc (cO Tryz.prog [] 22 Tryz.f169) _ U
theorem bw4:FnText Tryz.prog 169 [] 22 1 fb9 [(2,none)]:=tX Tryz.call169 follows Tryz.func169 O O OO Z Z
def ez4:AC:=rdc (cO Tryz.prog [] 9 Tryz.f171) _ U
theorem by5:FnText Tryz.prog 171 [] 9 2 ez4 [(3,none)]:=tX Tryz.call171 follows Tryz.func171 O O OO Z Z
def ea5:AC:=rdc (cO Tryz.prog [] 19 Tryz.f225) _ U
def cp3:AC:=rdc (lP 0 ea5) _ U
theorem bz4:FnText Tryz.prog 225 [] 19 2 ea5 [(4,none)]:=tX Tryz.call225 follows Tryz.func225 O O OO Z Z
def eu8:AC:=rdc (cO Tryz.prog [] 9 Tryz.f170) _ U
theorem bx7:FnText Tryz.prog 170 [] 9 2 eu8 [(4,none)]:=tX Tryz.call170 follows Tryz.func170 O O OO Z Z
def dy9:AC:=rdc (cO Tryz.prog [4] 51 Tryz.f103) _ U
def cs4:AC:=rdc (lP 0 dy9) _ U
theorem bt2:FnText Tryz.prog 103 [4] 51 1 dy9 [(2,none)]:=tX Tryz.call103 follows Tryz.func103 O O OO Z Z
def ez8:AC:=rdc (cO Tryz.prog [] 46 Tryz.f172) _ U
theorem bz8:FnText Tryz.prog 172 [] 46 2 ez8 [(4,none),(5,none)]:=tX Tryz.call172 follows Tryz.func172 O O OO Z Z
def ex9:AC:=rdc (cO Tryz.prog [] 25 Tryz.f267) _ U
theorem bu4:FnText Tryz.prog 267 [] 25 1 ex9 [(2,none)]:=tX Tryz.call267 follows Tryz.func267 O O OO Z Z
def eu1:AC:=rdc (cO Tryz.prog [] 11 Tryz.f287) _ U
theorem bw1:FnText Tryz.prog 287 [] 11 1 eu1 [(2,none),(3,none)]:=tX Tryz.call287 follows Tryz.func287 O O OO Z Z
def ed0:AC:=rdc (cO Tryz.prog [] 18 Tryz.f181) _ U
def cp1:AC:=rdc (lP 0 ed0) _ U
theorem bz1:FnText Tryz.prog 181 [] 18 1 ed0 [(2,none)]:=tX Tryz.call181 follows Tryz.func181 O O OO Z Z
def fd3:AC:=rdc (cO Tryz.prog [] 10 Tryz.f182) _ U
theorem ca3:FnText Tryz.prog 182 [] 10 1 fd3 [(2,none)]:=tX Tryz.call182 follows Tryz.func182 O O OO Z Z
def dw6:AC:=rdc (cO Tryz.prog [6] 45 Tryz.f288) _ U
theorem bw9:FnText Tryz.prog 288 [6] 45 3 dw6 [(6,some (2,true)),(7,none)]:=tX Tryz.call288 follows Tryz.func288 O O OO Z Z
def fe0:AC:=rdc (cO Tryz.prog [8] 90 Tryz.f268) _ U
theorem bw2:FnText Tryz.prog 268 [8] 90 2 fe0 [(4,none),(5,none)]:=tX Tryz.call268 follows Tryz.func268 O O OO Z Z
def fa7:AC:=rdc (cO Tryz.prog [] 91 Tryz.f269) _ U
theorem bt3:FnText Tryz.prog 269 [] 91 2 fa7 [(4,none),(5,none)]:=tX Tryz.call269 follows Tryz.func269 O O OO Z Z
def dx0:AC:=rdc (cO Tryz.prog [10] 73 Tryz.f226) _ U
def cw8:AC:=rdc (lP 0 dx0) _ U
theorem bu9:FnText Tryz.prog 226 [10] 73 3 dx0 [(6,none),(7,none),(8,none)]:=tX Tryz.call226 follows Tryz.func226 O O OO Z Z
def fa4:AC:=rdc (cO Tryz.prog [] 27 Tryz.f174) _ U
theorem bw7:FnText Tryz.prog 174 [] 27 2 fa4 [(4,none),(5,none)]:=tX Tryz.call174 follows Tryz.func174 O O OO Z Z
def fi7:AC:=rdc (cO Tryz.prog [] 24 Tryz.f173) _ U
theorem bw0:FnText Tryz.prog 173 [] 24 3 fi7 [(6,none)]:=tX Tryz.call173 follows Tryz.func173 O O OO Z Z
def fh6:AC:=rdc (cO Tryz.prog [5] 105 Tryz.f104) _ U
theorem bx0:FnText Tryz.prog 104 [5] 105 2 fh6 [(4,none)]:=tX Tryz.call104 follows Tryz.func104 O O OO Z Z
def fj1:AC:=rdc (cO Tryz.prog [6,7,9] 50 Tryz.f35) _ U
def dk3:AC:=rdc (lP 0 fj1) _ U
theorem cx2:FnText Tryz.prog 35 [6,7,9] 50 2 fj1 [(4,none),(5,none)]:=tX Tryz.call35 follows Tryz.func35 O O OO Z Z
def fg5:AC:=rdc (cO Tryz.prog [] 21 Tryz.f108) _ U
theorem bv0:FnText Tryz.prog 108 [] 21 2 fg5 [(4,none)]:=tX Tryz.call108 follows Tryz.func108 O O OO Z Z
def fa0:AC:=rdc (cO Tryz.prog [] 6 Tryz.f206) _ U
theorem bz3:FnText Tryz.prog 206 [] 6 1 fa0 [(2,none)]:=tX Tryz.call206 follows Tryz.func206 O O OO Z Z
def fg4:AC:=rdc (cO Tryz.prog [] 20 Tryz.f141) _ U
theorem bz2:FnText Tryz.prog 141 [] 20 2 fg4 [(4,none)]:=tX Tryz.call141 follows Tryz.func141 O O OO Z Z
def dz5:AC:=rdc (cO Tryz.prog [] 18 Tryz.f140) _ U
def cn3:AC:=rdc (lP 0 dz5) _ U
theorem bx9:FnText Tryz.prog 140 [] 18 1 dz5 [(2,none)]:=tX Tryz.call140 follows Tryz.func140 O O OO Z Z
def fa9:AC:=rdc (cO Tryz.prog [] 17 Tryz.f139) _ U
theorem dd1:FnText Tryz.prog 139 [] 17 2 fa9 [(4,none)]:=tX Tryz.call139 follows Tryz.func139 O O OO Z Z
def et9:AC:=rdc (cO Tryz.prog [] 17 Tryz.f179) _ U
theorem be4:FnText Tryz.prog 179 [] 17 2 et9 [(4,none)]:=tX Tryz.call179 follows Tryz.func179 O O OO Z Z
def fh1:AC:=rdc (cO Tryz.prog [] 14 Tryz.f138) _ U
theorem ca2:FnText Tryz.prog 138 [] 14 2 fh1 []:=tX Tryz.call138 follows Tryz.func138 O O OO Z Z
def ev6:AC:=rdc (cO Tryz.prog [] 11 Tryz.f143) _ U
theorem by3:FnText Tryz.prog 143 [] 11 1 ev6 []:=tX Tryz.call143 follows Tryz.func143 O O OO Z Z
def an4:AC:=
 .seq (.seq (r_ [m_ 29 5,
 m_ 30 4,
 n_ 31 75 30,
 q_ 32 (.bin .lss 3 (t_ 29) (t_ 31))])
 (.cond (t_ 32)
 (.skip)
 (.exit 2)))
 (.seq (.block 3 (.seq (.region true [m_ 35 4,
 m_ 36 5,
 q_ 37 (.iaddr 2 (t_ 35) (t_ 36)),
 q_ 38 (.load 2 true (t_ 37)),
 m_ 39 4,
 m_ 40 5,
 q_ 41 (.bin .sub 3 (t_ 40) (k_ 1)),
 q_ 42 (.iaddr 2 (t_ 39) (t_ 41)),
 q_ 43 (.load 2 true (t_ 42)),
 q_ 44 (.bin .neq 87 (t_ 38) (t_ 43))])
 (.cond (t_ 44)
 (.seq (r_ [m_ 45 0,
 m_ 46 3,
 m_ 47 4,
 m_ 48 5,
 q_ 49 (.iaddr 2 (t_ 47) (t_ 48)),
 q_ 50 (.load 2 true (t_ 49)),
 q_ 51 (.iaddr 2 (t_ 45) (t_ 46)),
 ⟨none,.store 2 (t_ 51) (t_ 50),none,false⟩])
 (r_ [m_ 52 3,
 q_ 53 (.bin .add 3 (t_ 52) (k_ 1)),
 m_ 3 53]))
 (.skip))))
 (r_ [m_ 33 5,
 q_ 34 (.bin .add 3 (t_ 33) (k_ 1)),
 m_ 5 34]))
def al9:AC:=
 .seq (.seq (r_ [m_ 10 3,
 m_ 11 0,
 n_ 12 75 11,
 q_ 13 (.bin .lss 3 (t_ 10) (t_ 12))])
 (.cond (t_ 13)
 (.skip)
 (.exit 0)))
 (.seq (.block 1 (.seq (.region true [m_ 16 0,
 m_ 17 3,
 q_ 18 (.iaddr 2 (t_ 16) (t_ 17)),
 q_ 19 (.load 2 true (t_ 18)),
 m_ 20 0,
 m_ 21 3,
 q_ 22 (.bin .sub 3 (t_ 21) (k_ 1)),
 q_ 23 (.iaddr 2 (t_ 20) (t_ 22)),
 q_ 24 (.load 2 true (t_ 23)),
 q_ 25 (.bin .eql 87 (t_ 19) (t_ 24))])
 (.cond (t_ 25)
 (.seq (r_ [m_ 26 0,
 m_ 27 3,
 (q_ 28 (.slice 75 2 (t_ 26) (some (t_ 27)) none none)),
 m_ 4 28])
 (.seq (.seq (r_ [q_ 5 (.move (k_ 1))])
 (.block 2 (.loop an4)))
 (.seq (r_ [m_ 54 0,
 m_ 55 3,
 (q_ 56 (.slice 75 2 (t_ 54) (some (t_ 55)) none none)),
 ⟨none,.clr 2 (.agg [(.int .i64 0),(.int .i64 0)].toArray) (t_ 56),none,false⟩])
 (.seq (r_ [m_ 57 0,
 m_ 58 3,
 (q_ 59 (.slice 75 2 (t_ 57) none (some (t_ 58)) none)),
 m_ 2 59])
 (.ret)))))
 (.skip))))
 (r_ [m_ 14 3,
 q_ 15 (.bin .add 3 (t_ 14) (k_ 1)),
 m_ 3 15]))
/-- slices.Compact[[]patchbay/api.FieldRef,patchbay/api.FieldRef] -/
def ci6:AC:=
 .seq (r_ [q_ 2 (.move z_)])
 (.seq (.seq (r_ [m_ 6 0,
 n_ 7 75 6,
 q_ 8 (.bin .lss 3 (t_ 7) (k_ 2))])
 (.cond (t_ 8)
 (.seq (r_ [m_ 9 0,
 m_ 2 9])
 (.ret))
 (.skip)))
 (.seq (.seq (r_ [q_ 3 (.move (k_ 1))])
 (.block 0 (.loop al9)))
 (.seq (r_ [m_ 60 0,
 m_ 2 60])
 (.ret))))
theorem bx8:FnText Tryz.prog 142 [] 61 1 ci6 [(2,none)]:=
 ⟨Tryz.call142,follows,Tryz.f142,_,Tryz.func142,rfl,rfl,by decide,by kernel_rfl,by kernel_rfl⟩
def al5:AC:=
 .seq (.seq (r_ [m_ 29 5,
 m_ 30 4,
 n_ 31 29 30,
 q_ 32 (.bin .lss 3 (t_ 29) (t_ 31))])
 (.cond (t_ 32)
 (.skip)
 (.exit 2)))
 (.seq (.block 3 (.seq (.region true [m_ 35 4,
 m_ 36 5,
 q_ 37 (.iaddr 1 (t_ 35) (t_ 36)),
 l_ 38 37,
 m_ 39 4,
 m_ 40 5,
 q_ 41 (.bin .sub 3 (t_ 40) (k_ 1)),
 q_ 42 (.iaddr 1 (t_ 39) (t_ 41)),
 l_ 43 42,
 q_ 44 (.bin .neq 3 (t_ 38) (t_ 43))])
 (.cond (t_ 44)
 (.seq (r_ [m_ 45 0,
 m_ 46 3,
 m_ 47 4,
 m_ 48 5,
 q_ 49 (.iaddr 1 (t_ 47) (t_ 48)),
 l_ 50 49,
 q_ 51 (.iaddr 1 (t_ 45) (t_ 46)),
 ⟨none,.store 1 (t_ 51) (t_ 50),none,false⟩])
 (r_ [m_ 52 3,
 q_ 53 (.bin .add 3 (t_ 52) (k_ 1)),
 m_ 3 53]))
 (.skip))))
 (r_ [m_ 33 5,
 q_ 34 (.bin .add 3 (t_ 33) (k_ 1)),
 m_ 5 34]))
def aj4:AC:=
 .seq (.seq (r_ [m_ 10 3,
 m_ 11 0,
 n_ 12 29 11,
 q_ 13 (.bin .lss 3 (t_ 10) (t_ 12))])
 (.cond (t_ 13)
 (.skip)
 (.exit 0)))
 (.seq (.block 1 (.seq (.region true [m_ 16 0,
 m_ 17 3,
 q_ 18 (.iaddr 1 (t_ 16) (t_ 17)),
 l_ 19 18,
 m_ 20 0,
 m_ 21 3,
 q_ 22 (.bin .sub 3 (t_ 21) (k_ 1)),
 q_ 23 (.iaddr 1 (t_ 20) (t_ 22)),
 l_ 24 23,
 q_ 25 (.bin .eql 3 (t_ 19) (t_ 24))])
 (.cond (t_ 25)
 (.seq (r_ [m_ 26 0,
 m_ 27 3,
 (q_ 28 (.slice 29 1 (t_ 26) (some (t_ 27)) none none)),
 m_ 4 28])
 (.seq (.seq (r_ [q_ 5 (.move (k_ 1))])
 (.block 2 (.loop al5)))
 (.seq (r_ [m_ 54 0,
 m_ 55 3,
 (q_ 56 (.slice 29 1 (t_ 54) (some (t_ 55)) none none)),
 ⟨none,.clr 1 (.int .i64 0) (t_ 56),none,false⟩])
 (.seq (r_ [m_ 57 0,
 m_ 58 3,
 (q_ 59 (.slice 29 1 (t_ 57) none (some (t_ 58)) none)),
 m_ 2 59])
 (.ret)))))
 (.skip))))
 (r_ [m_ 14 3,
 q_ 15 (.bin .add 3 (t_ 14) (k_ 1)),
 m_ 3 15]))
/-- slices.Compact[[]int,int] -/
def cm3:AC:=
 .seq (r_ [q_ 2 (.move z_)])
 (.seq (.seq (r_ [m_ 6 0,
 n_ 7 29 6,
 q_ 8 (.bin .lss 3 (t_ 7) (k_ 2))])
 (.cond (t_ 8)
 (.seq (r_ [m_ 9 0,
 m_ 2 9])
 (.ret))
 (.skip)))
 (.seq (.seq (r_ [q_ 3 (.move (k_ 1))])
 (.block 0 (.loop aj4)))
 (.seq (r_ [m_ 60 0,
 m_ 2 60])
 (.ret))))
theorem bt6:FnText Tryz.prog 144 [] 61 1 cm3 [(2,none)]:=
 ⟨Tryz.call144,follows,Tryz.f144,_,Tryz.func144,rfl,rfl,by decide,by kernel_rfl,by kernel_rfl⟩
def ex0:AC:=rdc (cO Tryz.prog [1000000] 35 Tryz.f110) _ U
theorem dd4:FnText Tryz.prog 110 [1000000] 35 1 ex0 [(2,none),(3,none),(4,none)]:=tX Tryz.call110 follows Tryz.func110 O O OO Z Z
def dp4:AC:=rdc (cO Tryz.prog [7,9] 76 Tryz.f39) _ U
def di9:AC:=rdc (lP 0 dp4) _ U
def db5:AC:=rdc (lP 1 dp4) _ U
theorem cm1:FnText Tryz.prog 39 [7,9] 76 2 dp4 [(4,none),(5,none),(6,none)]:=tX Tryz.call39 follows Tryz.func39 O O OO Z Z
def ev2:AC:=rdc (cO Tryz.prog [] 15 Tryz.f137) _ U
theorem bx3:FnText Tryz.prog 137 [] 15 2 ev2 []:=tX Tryz.call137 follows Tryz.func137 O O OO Z Z
def ec3:AC:=rdc (cO Tryz.prog [2,3,5] 32 Tryz.f163) _ U
def cm5:AC:=rdc (lP 0 ec3) _ U
theorem by6:FnText Tryz.prog 163 [2,3,5] 32 1 ec3 [(2,some (4,true))]:=tX Tryz.call163 follows Tryz.func163 O O OO Z Z
def eb1:AC:=rdc (cO Tryz.prog [] 22 Tryz.f135) _ U
def cv8:AC:=rdc (lP 0 eb1) _ U
theorem bv9:FnText Tryz.prog 135 [] 22 2 eb1 [(4,none)]:=tX Tryz.call135 follows Tryz.func135 O O OO Z Z
def fn1:AC:=rdc (cO Tryz.prog [] 22 Tryz.f92) _ U
theorem cn4:FnText Tryz.prog 92 [] 22 3 fn1 [(6,none)]:=tX Tryz.call92 follows Tryz.func92 O O OO Z Z
def ex1:AC:=rdc (cO Tryz.prog [7] 63 Tryz.f62) _ U
def dc5:AC:=rdc (lP 0 ex1) _ U
theorem ci0:FnText Tryz.prog 62 [7] 63 2 ex1 [(4,none)]:=tX Tryz.call62 follows Tryz.func62 O O OO Z Z
def fn2:AC:=rdc (cO Tryz.prog [] 8 Tryz.f63) _ U
theorem cj3:FnText Tryz.prog 63 [] 8 2 fn2 [(4,none)]:=tX Tryz.call63 follows Tryz.func63 O O OO Z Z
def fl6:AC:=rdc (cO Tryz.prog [] 8 Tryz.f25) _ U
theorem cl9:FnText Tryz.prog 25 [] 8 2 fl6 [(4,none)]:=tX Tryz.call25 follows Tryz.func25 O O OO Z Z
def dd5:AC:=rdc (cO Tryz.prog [10] 61 Tryz.f65) _ U
def di4:AC:=rdc (lP 0 dd5) _ U
def dc0:AC:=rdc (lP 1 dd5) _ U
def dc8:AC:=rdc (lP 2 dd5) _ U
theorem cp6:FnText Tryz.prog 65 [10] 61 4 dd5 []:=tX Tryz.call65 follows Tryz.func65 O O OO Z Z
def fn5:AC:=rdc (cO Tryz.prog [] 13 Tryz.f68) _ U
theorem cx6:FnText Tryz.prog 68 [] 13 1 fn5 [(2,none)]:=tX Tryz.call68 follows Tryz.func68 O O OO Z Z
def fh4:AC:=rdc (cO Tryz.prog [5,20] 39 Tryz.f18) _ U
def dv4:AC:=rdc (lP 0 fh4) _ U
theorem cq7:FnText Tryz.prog 18 [5,20] 39 2 fh4 [(4,none)]:=tX Tryz.call18 follows Tryz.func18 O O OO Z Z
def fc6:AC:=rdc (cO Tryz.prog [] 47 Tryz.f124) _ U
theorem dq6:FnText Tryz.prog 124 [] 47 2 fc6 [(4,none)]:=tX Tryz.call124 follows Tryz.func124 O O OO Z Z
def fo1:AC:=rdc (cO Tryz.prog [] 21 Tryz.f93) _ U
theorem eh0:FnText Tryz.prog 93 [] 21 2 fo1 [(4,none)]:=tX Tryz.call93 follows Tryz.func93 O O OO Z Z
def fm9:AC:=rdc (cO Tryz.prog [] 33 Tryz.f49) _ U
theorem ej3:FnText Tryz.prog 49 [] 33 2 fm9 [(4,none)]:=tX Tryz.call49 follows Tryz.func49 O O OO Z Z
def fe4:AC:=rdc (cO Tryz.prog [] 13 Tryz.f217) _ U
theorem dc2:FnText Tryz.prog 217 [] 13 2 fe4 [(4,none)]:=tX Tryz.call217 follows Tryz.func217 O O OO Z Z
def et8:AC:=rdc (cO Tryz.prog [] 4 Tryz.f218) _ U
theorem da7:FnText Tryz.prog 218 [] 4 1 et8 [(2,none)]:=tX Tryz.call218 follows Tryz.func218 O O OO Z Z
def ez2:AC:=rdc (cO Tryz.prog [] 12 Tryz.f260) _ U
theorem de2:FnText Tryz.prog 260 [] 12 2 ez2 [(4,none)]:=tX Tryz.call260 follows Tryz.func260 O O OO Z Z
def dx3:AC:=rdc (cO Tryz.prog [] 28 Tryz.f261) _ U
def cn9:AC:=rdc (lP 0 dx3) _ U
theorem do6:FnText Tryz.prog 261 [] 28 3 dx3 [(6,none)]:=tX Tryz.call261 follows Tryz.func261 O O OO Z Z
def eb6:AC:=rdc (cO Tryz.prog [] 25 Tryz.f262) _ U
def cq5:AC:=rdc (lP 0 eb6) _ U
theorem de9:FnText Tryz.prog 262 [] 25 3 eb6 [(6,none)]:=tX Tryz.call262 follows Tryz.func262 O O OO Z Z
def fg2:AC:=rdc (cO Tryz.prog [] 27 Tryz.f263) _ U
theorem dn1:FnText Tryz.prog 263 [] 27 3 fg2 [(6,none)]:=tX Tryz.call263 follows Tryz.func263 O O OO Z Z
def eu2:AC:=rdc (cO Tryz.prog [] 14 Tryz.f264) _ U
theorem dq0:FnText Tryz.prog 264 [] 14 3 eu2 [(6,none)]:=tX Tryz.call264 follows Tryz.func264 O O OO Z Z
def eu6:AC:=rdc (cO Tryz.prog [] 26 Tryz.f265) _ U
theorem di7:FnText Tryz.prog 265 [] 26 3 eu6 [(6,none)]:=tX Tryz.call265 follows Tryz.func265 O O OO Z Z
def fi4:AC:=rdc (cO Tryz.prog [] 38 Tryz.f266) _ U
theorem dh3:FnText Tryz.prog 266 [] 38 4 fi4 [(8,none),(9,none)]:=tX Tryz.call266 follows Tryz.func266 O O OO Z Z
def fi1:AC:=rdc (cO Tryz.prog [] 167 Tryz.f220) _ U
theorem dp1:FnText Tryz.prog 220 [] 167 2 fi1 [(4,none)]:=tX Tryz.call220 follows Tryz.func220 O O OO Z Z
def ec1:AC:=rdc (cO Tryz.prog [10,11,19] 127 Tryz.f157) _ U
def ch1:AC:=rdc (lP 0 ec1) _ U
theorem dm4:FnText Tryz.prog 157 [10,11,19] 127 5 ec1 [(10,some (3,true))]:=tX Tryz.call157 follows Tryz.func157 O O OO Z Z
def fm5:AC:=rdc (cO Tryz.prog [] 25 Tryz.f86) _ U
theorem en0:FnText Tryz.prog 86 [] 25 4 fm5 [(8,none)]:=tX Tryz.call86 follows Tryz.func86 O O OO Z Z
def ea8:AC:=rdc (cO Tryz.prog [] 17 Tryz.f185) _ U
def ff3:AC:=rdc (lP 0 ea8) _ U
theorem fj4:FnText Tryz.prog 185 [] 17 1 ea8 [(2,none)]:=tX Tryz.call185 follows Tryz.func185 O O OO Z Z
def eb9:AC:=rdc (cO Tryz.prog [] 17 Tryz.f186) _ U
def fd5:AC:=rdc (lP 0 eb9) _ U
theorem fl2:FnText Tryz.prog 186 [] 17 1 eb9 [(2,none)]:=tX Tryz.call186 follows Tryz.func186 O O OO Z Z
def dy2:AC:=rdc (cO Tryz.prog [] 17 Tryz.f187) _ U
def fg8:AC:=rdc (lP 0 dy2) _ U
theorem fj3:FnText Tryz.prog 187 [] 17 1 dy2 [(2,none)]:=tX Tryz.call187 follows Tryz.func187 O O OO Z Z
def dx1:AC:=rdc (cO Tryz.prog [2,3,1000003] 36 Tryz.f116) _ U
def eu7:AC:=rdc (lP 0 dx1) _ U
theorem fj8:FnText Tryz.prog 116 [2,3,1000003] 36 1 dx1 [(2,some (4,true))]:=tX Tryz.call116 follows Tryz.func116 O O OO Z Z
def fd8:AC:=rdc (cO Tryz.prog [4] 19 Tryz.f233) _ U
theorem db4:FnText Tryz.prog 233 [4] 19 2 fd8 [(4,some (2,true))]:=tX Tryz.call233 follows Tryz.func233 O O OO Z Z
def fi2:AC:=rdc (cO Tryz.prog [] 14 Tryz.f203) _ U
theorem dm5:FnText Tryz.prog 203 [] 14 2 fi2 [(4,none)]:=tX Tryz.call203 follows Tryz.func203 O O OO Z Z
def fa2:AC:=rdc (cO Tryz.prog [4] 19 Tryz.f202) _ U
theorem dj5:FnText Tryz.prog 202 [4] 19 2 fa2 [(4,some (2,true))]:=tX Tryz.call202 follows Tryz.func202 O O OO Z Z
def fh2:AC:=rdc (cO Tryz.prog [] 18 Tryz.f136) _ U
theorem di6:FnText Tryz.prog 136 [] 18 2 fh2 [(4,none)]:=tX Tryz.call136 follows Tryz.func136 O O OO Z Z
def ev0:AC:=rdc (cO Tryz.prog [] 13 Tryz.f270) _ U
theorem fk5:FnText Tryz.prog 270 [] 13 2 ev0 [(4,none)]:=tX Tryz.call270 follows Tryz.func270 O O OO Z Z
def ex4:AC:=rdc (cO Tryz.prog [] 19 Tryz.f271) _ U
theorem fk9:FnText Tryz.prog 271 [] 19 2 ex4 [(4,none)]:=tX Tryz.call271 follows Tryz.func271 O O OO Z Z
def ff2:AC:=rdc (cO Tryz.prog [] 19 Tryz.f272) _ U
theorem fj7:FnText Tryz.prog 272 [] 19 2 ff2 [(4,none)]:=tX Tryz.call272 follows Tryz.func272 O O OO Z Z
def fg6:AC:=rdc (cO Tryz.prog [] 36 Tryz.f227) _ U
theorem fk1:FnText Tryz.prog 227 [] 36 2 fg6 [(4,none),(5,none)]:=tX Tryz.call227 follows Tryz.func227 O O OO Z Z
def ew2:AC:=rdc (cO Tryz.prog [8,9] 38 Tryz.f188) _ U
theorem fl0:FnText Tryz.prog 188 [8,9] 38 4 ew2 [(8,some (4,true))]:=tX Tryz.call188 follows Tryz.func188 O O OO Z Z
def dx9:AC:=rdc (cO Tryz.prog [2,3,1000003] 43 Tryz.f158) _ U
def cm6:AC:=rdc (lP 0 dx9) _ U
theorem dk5:FnText Tryz.prog 158 [2,3,1000003] 43 1 dx9 [(2,some (4,true))]:=tX Tryz.call158 follows Tryz.func158 O O OO Z Z
def dx6:AC:=rdc (cO Tryz.prog [] 19 Tryz.f159) _ U
def cx5:AC:=rdc (lP 0 dx6) _ U
theorem df3:FnText Tryz.prog 159 [] 19 2 dx6 [(4,none)]:=tX Tryz.call159 follows Tryz.func159 O O OO Z Z
def fn3:AC:=rdc (cO Tryz.prog [8,9] 61 Tryz.f87) _ U
theorem el4:FnText Tryz.prog 87 [8,9] 61 4 fn3 [(8,some (4,true))]:=tX Tryz.call87 follows Tryz.func87 O O OO Z Z
def fe7:AC:=rdc (cO Tryz.prog [6,7] 32 Tryz.f160) _ U
theorem df7:FnText Tryz.prog 160 [6,7] 32 3 fe7 [(6,some (4,true))]:=tX Tryz.call160 follows Tryz.func160 O O OO Z Z
def fl9:AC:=rdc (cO Tryz.prog [6] 35 Tryz.f88) _ U
theorem em0:FnText Tryz.prog 88 [6] 35 3 fl9 [(6,some (4,true))]:=tX Tryz.call88 follows Tryz.func88 O O OO Z Z
def fl8:AC:=rdc (cO Tryz.prog [6] 28 Tryz.f89) _ U
theorem ee9:FnText Tryz.prog 89 [6] 28 3 fl8 [(6,some (4,true))]:=tX Tryz.call89 follows Tryz.func89 O O OO Z Z
def ez1:AC:=rdc (cO Tryz.prog [] 45 Tryz.f161) _ U
theorem dw0:FnText Tryz.prog 161 [] 45 4 ez1 [(8,none)]:=tX Tryz.call161 follows Tryz.func161 O O OO Z Z
def fn4:AC:=rdc (cO Tryz.prog [] 22 Tryz.f90) _ U
theorem eq6:FnText Tryz.prog 90 [] 22 4 fn4 [(8,none)]:=tX Tryz.call90 follows Tryz.func90 O O OO Z Z
def ed5:AC:=rdc (cO Tryz.prog [] 30 Tryz.f117) _ U
def fa5:AC:=rdc (lP 0 ed5) _ U
theorem fl1:FnText Tryz.prog 117 [] 30 1 ed5 [(2,none)]:=tX Tryz.call117 follows Tryz.func117 O O OO Z Z
def fb6:AC:=rdc (cO Tryz.prog [] 13 Tryz.f162) _ U
theorem dv7:FnText Tryz.prog 162 [] 13 1 fb6 [(2,none)]:=tX Tryz.call162 follows Tryz.func162 O O OO Z Z
def fb3:AC:=rdc (cO Tryz.prog [] 45 Tryz.f230) _ U
theorem fj9:FnText Tryz.prog 230 [] 45 3 fb3 [(6,none)]:=tX Tryz.call230 follows Tryz.func230 O O OO Z Z
def ff9:AC:=rdc (cO Tryz.prog [] 48 Tryz.f193) _ U
theorem fk2:FnText Tryz.prog 193 [] 48 5 ff9 [(10,none)]:=tX Tryz.call193 follows Tryz.func193 O O OO Z Z
def ek4:AC:=rdc (cO Tryz.prog [] 70 Tryz.f91) _ U
def di2:AC:=rdc (lP 0 ek4) _ U
def dc4:AC:=rdc (lP 1 ek4) _ U
theorem er6:FnText Tryz.prog 91 [] 70 5 ek4 [(10,none)]:=tX Tryz.call91 follows Tryz.func91 O O OO Z Z
def en3:AC:=rdc (cO Tryz.prog [6,8,12,15] 116 Tryz.f23) _ U
def df0:AC:=rdc (lP 0 en3) _ U
theorem ee8:FnText Tryz.prog 23 [6,8,12,15] 116 4 en3 [(8,some (4,true)),(9,none)]:=tX Tryz.call23 follows Tryz.func23 O O OO Z Z
def ex8:AC:=rdc (cO Tryz.prog [] 26 Tryz.f24) _ U
def dp0:AC:=rdc (lP 0 ex8) _ U
theorem ek1:FnText Tryz.prog 24 [] 26 2 ex8 [(4,none)]:=tX Tryz.call24 follows Tryz.func24 O O OO Z Z
def de8:AC:=rdc (cO Tryz.prog [11,13] 89 Tryz.f26) _ U
def dg2:AC:=rdc (lP 0 de8) _ U
def dk8:AC:=rdc (lP 1 de8) _ U
def dp5:AC:=rdc (lP 2 de8) _ U
theorem ej9:FnText Tryz.prog 26 [11,13] 89 4 de8 [(8,none)]:=tX Tryz.call26 follows Tryz.func26 O O OO Z Z
def ac4:AC:=rdc (cO Tryz.prog [9] 146 Tryz.f4) _ U
def ei3:AC:=rdc (lP 0 ac4) _ U
def es7:AC:=rdc (lP 1 ac4) _ U
theorem ew9:FnText Tryz.prog 4 [9] 146 3 ac4 [(6,none)]:=tX Tryz.call4 follows Tryz.func4 O O OO Z Z
def ea7:AC:=rdc (cO Tryz.prog [] 30 Tryz.f231) _ U
def fc3:AC:=rdc (lP 0 ea7) _ U
theorem fj5:FnText Tryz.prog 231 [] 30 1 ea7 [(2,none)]:=tX Tryz.call231 follows Tryz.func231 O O OO Z Z
def fm3:AC:=rdc (cO Tryz.prog [0,1,2,3] 35 Tryz.f60) _ U
theorem es1:FnText Tryz.prog 60 [0,1,2,3] 35 0 fm3 [(0,some (9,true))]:=tX Tryz.call60 follows Tryz.func60 O O OO Z Z
def fi5:AC:=rdc (cO Tryz.prog [0] 8 Tryz.f134) _ U
theorem dl7:FnText Tryz.prog 134 [0] 8 0 fi5 [(0,some (9,true))]:=tX Tryz.call134 follows Tryz.func134 O O OO Z Z
def fo0:AC:=rdc (cO Tryz.prog [] 5 Tryz.f61) _ U
theorem ei8:FnText Tryz.prog 61 [] 5 1 fo0 [(2,none)]:=tX Tryz.call61 follows Tryz.func61 O O OO Z Z
def ey1:AC:=rdc (cO Tryz.prog [6] 54 Tryz.f64) _ U
def fl3:AC:=rdc (lP 0 ey1) _ U
theorem el2:FnText Tryz.prog 64 [6] 54 2 ey1 [(4,none)]:=tX Tryz.call64 follows Tryz.func64 O O OO Z Z
def eg9:AC:=rdc (cO Tryz.prog [14,6,9] 67 Tryz.f16) _ U
def fk8:AC:=rdc (lP 0 eg9) _ U
def fl4:AC:=rdc (lP 1 eg9) _ U
theorem eh2:FnText Tryz.prog 16 [14,6,9] 67 2 eg9 [(4,none)]:=tX Tryz.call16 follows Tryz.func16 O O OO Z Z
def ff8:AC:=rdc (cO Tryz.prog [5] 28 Tryz.f66) _ U
def fk0:AC:=rdc (lP 0 ff8) _ U
theorem em7:FnText Tryz.prog 66 [5] 28 1 ff8 [(2,none)]:=tX Tryz.call66 follows Tryz.func66 O O OO Z Z
def fh5:AC:=rdc (cO Tryz.prog [] 8 Tryz.f205) _ U
theorem da1:FnText Tryz.prog 205 [] 8 1 fh5 [(2,none)]:=tX Tryz.call205 follows Tryz.func205 O O OO Z Z
def fg3:AC:=rdc (cO Tryz.prog [] 19 Tryz.f242) _ U
theorem dt7:FnText Tryz.prog 242 [] 19 1 fg3 [(2,none)]:=tX Tryz.call242 follows Tryz.func242 O O OO Z Z
def fb4:AC:=rdc (cO Tryz.prog [] 25 Tryz.f243) _ U
theorem dc9:FnText Tryz.prog 243 [] 25 1 fb4 [(2,none)]:=tX Tryz.call243 follows Tryz.func243 O O OO Z Z
def ec2:AC:=rdc (cO Tryz.prog [] 148 Tryz.f204) _ U
def ey8:AC:=rdc (lP 0 ec2) _ U
theorem dn9:FnText Tryz.prog 204 [] 148 5 ec2 []:=tX Tryz.call204 follows Tryz.func204 O O OO Z Z
def cv2:AC:=rdc (cO Tryz.prog [] 53 Tryz.f234) _ U
def fd0:AC:=rdc (lP 0 cv2) _ U
def eu0:AC:=rdc (lP 1 cv2) _ U
theorem ds2:FnText Tryz.prog 234 [] 53 4 cv2 []:=tX Tryz.call234 follows Tryz.func234 O O OO Z Z
def fj0:AC:=rdc (cO Tryz.prog [5] 25 Tryz.f67) _ U
def fk7:AC:=rdc (lP 0 fj0) _ U
theorem eh9:FnText Tryz.prog 67 [5] 25 1 fj0 [(2,none)]:=tX Tryz.call67 follows Tryz.func67 O O OO Z Z
def dz3:AC:=rdc (cO Tryz.prog [] 134 Tryz.f207) _ U
def eu4:AC:=rdc (lP 0 dz3) _ U
theorem do1:FnText Tryz.prog 207 [] 134 4 dz3 []:=tX Tryz.call207 follows Tryz.func207 O O OO Z Z
def ci4:AC:=rdc (cO Tryz.prog [] 49 Tryz.f244) _ U
def ez7:AC:=rdc (lP 0 ci4) _ U
def fe2:AC:=rdc (lP 1 ci4) _ U
theorem df1:FnText Tryz.prog 244 [] 49 3 ci4 []:=tX Tryz.call244 follows Tryz.func244 O O OO Z Z
def ex2:AC:=rdc (cO Tryz.prog [] 17 Tryz.f250) _ U
theorem ds0:FnText Tryz.prog 250 [] 17 2 ex2 [(4,none)]:=tX Tryz.call250 follows Tryz.func250 O O OO Z Z
def ev7:AC:=rdc (cO Tryz.prog [7,9] 81 Tryz.f37) _ U
def fk6:AC:=rdc (lP 0 ev7) _ U
theorem ei0:FnText Tryz.prog 37 [7,9] 81 2 ev7 [(4,none),(5,none),(6,none)]:=tX Tryz.call37 follows Tryz.func37 O O OO Z Z
def eu5:AC:=rdc (cO Tryz.prog [] 24 Tryz.f109) _ U
theorem dv9:FnText Tryz.prog 109 [] 24 2 eu5 []:=tX Tryz.call109 follows Tryz.func109 O O OO Z Z
def fd7:AC:=rdc (cO Tryz.prog [] 26 Tryz.f15) _ U
def fk3:AC:=rdc (lP 0 fd7) _ U
theorem ef5:FnText Tryz.prog 15 [] 26 2 fd7 [(4,none)]:=tX Tryz.call15 follows Tryz.func15 O O OO Z Z
def es5:AC:=rdc (cO Tryz.prog [] 35 Tryz.f110) _ U
theorem cx7:FnText Tryz.prog 110 [] 35 1 es5 [(2,none),(3,none),(4,none)]:=tX Tryz.call110 follows Tryz.func110 O O OO Z Z
end Go.Proofs.YtmonnlkagniolaaGreat
