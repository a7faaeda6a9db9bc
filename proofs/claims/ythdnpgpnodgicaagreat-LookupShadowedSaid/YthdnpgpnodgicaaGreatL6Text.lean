/-
 The text of each function of this seat, as the plain library tells it; each by the kernel's own reckoning from the program.
-/
import Derived.Test.YthdnpgpnodgicaaGreatPbV
import Derived.Test.YthdnpgpnodgicaaGreatRows
set_option linter.unusedVariables false
set_option maxRecDepth 100000
namespace Go.Proofs.YthdnpgpnodgicaaGreat
open Go Go.Pb
abbrev q_ (d : Nat) (o : AOp) : AOper := ⟨some d, o, none, false⟩
abbrev t_ (n : Nat) : Operand := .tmp n
abbrev k_ (i : Int) : Operand := .const (.int .i64 i)
abbrev m_ (d n : Nat) : AOper := ⟨some d, .move (.tmp n), none, false⟩
abbrev l_ (d n : Nat) : AOper := ⟨some d, .load 1 false (.tmp n), none, false⟩
abbrev f_ (d a n : Nat) : AOper := ⟨some d, .faddr a 1 false (.tmp n), none, false⟩
abbrev n_ (d a n : Nat) : AOper := ⟨some d, .bi .len [a].toArray 3 [.tmp n], none, false⟩
abbrev r_ (l : List AOper) : AC := .region false l
abbrev z_ : Operand := .const (.slice none 0 0)
theorem follows : Tryz.prog.follows .mixedOrders = true := by kernel_rfl
def ek4 : AC := rdc (cO Tryz.prog [] 50 Tryz.f63) _ (by conv => lhs; reduce)
def dg6 : AC := rdc (lP 0 ek4) _ (by conv => lhs; reduce)
theorem ea8 : FnText Tryz.prog 63 [] 50 2 ek4 [(4, none)] := tX Tryz.call63 follows Tryz.func63 rfl rfl (by decide) (by kernel_rfl) (by kernel_rfl)

def eg7 : AC := rdc (cO Tryz.prog [] 29 Tryz.f64) _ (by conv => lhs; reduce)
def cy0 : AC := rdc (lP 0 eg7) _ (by conv => lhs; reduce)
theorem dt0 : FnText Tryz.prog 64 [] 29 1 eg7 [(2, none)] := tX Tryz.call64 follows Tryz.func64 rfl rfl (by decide) (by kernel_rfl) (by kernel_rfl)

def em0 : AC := rdc (cO Tryz.prog [] 45 Tryz.f65) _ (by conv => lhs; reduce)
def cs3 : AC := rdc (lP 0 em0) _ (by conv => lhs; reduce)
theorem du1 : FnText Tryz.prog 65 [] 45 1 em0 [(2, none)] := tX Tryz.call65 follows Tryz.func65 rfl rfl (by decide) (by kernel_rfl) (by kernel_rfl)

def eu0 : AC := rdc (cO Tryz.prog [] 19 Tryz.f66) _ (by conv => lhs; reduce)
theorem dt5 : FnText Tryz.prog 66 [] 19 1 eu0 [(2, none)] := tX Tryz.call66 follows Tryz.func66 rfl rfl (by decide) (by kernel_rfl) (by kernel_rfl)

def cb7 : AC := rdc (cO Tryz.prog [] 145 Tryz.f27) _ (by conv => lhs; reduce)
def di8 : AC := rdc (lP 0 cb7) _ (by conv => lhs; reduce)
def de5 : AC := rdc (lP 1 cb7) _ (by conv => lhs; reduce)
def cs9 : AC := rdc (lP 2 cb7) _ (by conv => lhs; reduce)
def dg0 : AC := rdc (lP 3 cb7) _ (by conv => lhs; reduce)
theorem du6 : FnText Tryz.prog 27 [] 145 1 cb7 [(2, none)] := tX Tryz.call27 follows Tryz.func27 rfl rfl (by decide) (by kernel_rfl) (by kernel_rfl)

def en0 : AC := rdc (cO Tryz.prog [] 47 Tryz.f10) _ (by conv => lhs; reduce)
def de2 : AC := rdc (lP 0 en0) _ (by conv => lhs; reduce)
theorem dv5 : FnText Tryz.prog 10 [] 47 1 en0 [(2, none)] := tX Tryz.call10 follows Tryz.func10 rfl rfl (by decide) (by kernel_rfl) (by kernel_rfl)

def es2 : AC := rdc (cO Tryz.prog [1, 3, 5, 9] 89 Tryz.f11) _ (by conv => lhs; reduce)
theorem ea0 : FnText Tryz.prog 11 [1, 3, 5, 9] 89 0 es2 [(0, none)] := tX Tryz.call11 follows Tryz.func11 rfl rfl (by decide) (by kernel_rfl) (by kernel_rfl)

def eg1 : AC := rdc (cO Tryz.prog [] 17 Tryz.f118) _ (by conv => lhs; reduce)
theorem cs4 : FnText Tryz.prog 118 [] 17 1 eg1 [(2, none)] := tX Tryz.call118 follows Tryz.func118 rfl rfl (by decide) (by kernel_rfl) (by kernel_rfl)

def el1 : AC := rdc (cO Tryz.prog [] 9 Tryz.f119) _ (by conv => lhs; reduce)
theorem cz9 : FnText Tryz.prog 119 [] 9 1 el1 [(2, none)] := tX Tryz.call119 follows Tryz.func119 rfl rfl (by decide) (by kernel_rfl) (by kernel_rfl)

def eo0 : AC := rdc (cO Tryz.prog [] 41 Tryz.f88) _ (by conv => lhs; reduce)
def cy2 : AC := rdc (lP 0 eo0) _ (by conv => lhs; reduce)
theorem dx1 : FnText Tryz.prog 88 [] 41 1 eo0 [(2, none)] := tX Tryz.call88 follows Tryz.func88 rfl rfl (by decide) (by kernel_rfl) (by kernel_rfl)

def et1 : AC := rdc (cO Tryz.prog [] 63 Tryz.f62) _ (by conv => lhs; reduce)
theorem dv0 : FnText Tryz.prog 62 [] 63 2 et1 [(4, none)] := tX Tryz.call62 follows Tryz.func62 rfl rfl (by decide) (by kernel_rfl) (by kernel_rfl)

def en9 : AC := rdc (cO Tryz.prog [] 62 Tryz.f89) _ (by conv => lhs; reduce)
def db1 : AC := rdc (lP 0 en9) _ (by conv => lhs; reduce)
theorem dr3 : FnText Tryz.prog 89 [] 62 2 en9 [(4, none), (5, none)] := tX Tryz.call89 follows Tryz.func89 rfl rfl (by decide) (by kernel_rfl) (by kernel_rfl)

def dl3 : AC := rdc (cO Tryz.prog [] 19 Tryz.f120) _ (by conv => lhs; reduce)
def cf8 : AC := rdc (lP 0 dl3) _ (by conv => lhs; reduce)
theorem da3 : FnText Tryz.prog 120 [] 19 2 dl3 [(4, none)] := tX Tryz.call120 follows Tryz.func120 rfl rfl (by decide) (by kernel_rfl) (by kernel_rfl)

def ek9 : AC := rdc (cO Tryz.prog [] 9 Tryz.f145) _ (by conv => lhs; reduce)
theorem cy6 : FnText Tryz.prog 145 [] 9 1 ek9 [(2, none)] := tX Tryz.call145 follows Tryz.func145 rfl rfl (by decide) (by kernel_rfl) (by kernel_rfl)

def dj8 : AC := rdc (cO Tryz.prog [] 13 Tryz.f147) _ (by conv => lhs; reduce)
def ck2 : AC := rdc (lP 0 dj8) _ (by conv => lhs; reduce)
theorem ct5 : FnText Tryz.prog 147 [] 13 1 dj8 [(2, none)] := tX Tryz.call147 follows Tryz.func147 rfl rfl (by decide) (by kernel_rfl) (by kernel_rfl)

def ee2 : AC := rdc (cO Tryz.prog [] 14 Tryz.f122) _ (by conv => lhs; reduce)
theorem cp6 : FnText Tryz.prog 122 [] 14 2 ee2 [(4, none)] := tX Tryz.call122 follows Tryz.func122 rfl rfl (by decide) (by kernel_rfl) (by kernel_rfl)

def ee4 : AC := rdc (cO Tryz.prog [] 49 Tryz.f94) _ (by conv => lhs; reduce)
def cv6 : AC := rdc (lP 0 ee4) _ (by conv => lhs; reduce)
theorem ec2 : FnText Tryz.prog 94 [] 49 2 ee4 [(4, none)] := tX Tryz.call94 follows Tryz.func94 rfl rfl (by decide) (by kernel_rfl) (by kernel_rfl)

def en3 : AC := rdc (cO Tryz.prog [] 53 Tryz.f90) _ (by conv => lhs; reduce)
def cs5 : AC := rdc (lP 0 en3) _ (by conv => lhs; reduce)
theorem dy4 : FnText Tryz.prog 90 [] 53 2 en3 [(4, none)] := tX Tryz.call90 follows Tryz.func90 rfl rfl (by decide) (by kernel_rfl) (by kernel_rfl)

def eu9 : AC := rdc (cO Tryz.prog [6] 64 Tryz.f47) _ (by conv => lhs; reduce)
theorem dt3 : FnText Tryz.prog 47 [6] 64 2 eu9 [(4, none), (5, none)] := tX Tryz.call47 follows Tryz.func47 rfl rfl (by decide) (by kernel_rfl) (by kernel_rfl)

def et3 : AC := rdc (cO Tryz.prog [] 15 Tryz.f61) _ (by conv => lhs; reduce)
theorem du4 : FnText Tryz.prog 61 [] 15 2 et3 [(4, none)] := tX Tryz.call61 follows Tryz.func61 rfl rfl (by decide) (by kernel_rfl) (by kernel_rfl)

def ep1 : AC := rdc (cO Tryz.prog [] 38 Tryz.f24) _ (by conv => lhs; reduce)
def dg2 : AC := rdc (lP 0 ep1) _ (by conv => lhs; reduce)
theorem dw4 : FnText Tryz.prog 24 [] 38 2 ep1 [(4, none)] := tX Tryz.call24 follows Tryz.func24 rfl rfl (by decide) (by kernel_rfl) (by kernel_rfl)

def ef9 : AC := rdc (cO Tryz.prog [] 20 Tryz.f146) _ (by conv => lhs; reduce)
theorem df2 : FnText Tryz.prog 146 [] 20 2 ef9 [(4, none)] := tX Tryz.call146 follows Tryz.func146 rfl rfl (by decide) (by kernel_rfl) (by kernel_rfl)

def dk7 : AC := rdc (cO Tryz.prog [] 22 Tryz.f121) _ (by conv => lhs; reduce)
def cn2 : AC := rdc (lP 0 dk7) _ (by conv => lhs; reduce)
theorem da0 : FnText Tryz.prog 121 [] 22 2 dk7 [(4, none), (5, none)] := tX Tryz.call121 follows Tryz.func121 rfl rfl (by decide) (by kernel_rfl) (by kernel_rfl)

def ed9 : AC := rdc (cO Tryz.prog [] 10 Tryz.f123) _ (by conv => lhs; reduce)
theorem ct0 : FnText Tryz.prog 123 [] 10 1 ed9 [(2, none)] := tX Tryz.call123 follows Tryz.func123 rfl rfl (by decide) (by kernel_rfl) (by kernel_rfl)

def ev0 : AC := rdc (cO Tryz.prog [] 56 Tryz.f91) _ (by conv => lhs; reduce)
theorem dv1 : FnText Tryz.prog 91 [] 56 3 ev0 [(6, none)] := tX Tryz.call91 follows Tryz.func91 rfl rfl (by decide) (by kernel_rfl) (by kernel_rfl)

def ep7 : AC := rdc (cO Tryz.prog [] 35 Tryz.f92) _ (by conv => lhs; reduce)
def df9 : AC := rdc (lP 0 ep7) _ (by conv => lhs; reduce)
theorem do3 : FnText Tryz.prog 92 [] 35 2 ep7 [(4, none)] := tX Tryz.call92 follows Tryz.func92 rfl rfl (by decide) (by kernel_rfl) (by kernel_rfl)

def eu7 : AC := rdc (cO Tryz.prog [] 21 Tryz.f93) _ (by conv => lhs; reduce)
theorem eb8 : FnText Tryz.prog 93 [] 21 3 eu7 [(6, none)] := tX Tryz.call93 follows Tryz.func93 rfl rfl (by decide) (by kernel_rfl) (by kernel_rfl)

def el9 : AC := rdc (cO Tryz.prog [] 89 Tryz.f48) _ (by conv => lhs; reduce)
def de1 : AC := rdc (lP 0 el9) _ (by conv => lhs; reduce)
theorem dp1 : FnText Tryz.prog 48 [] 89 3 el9 [(6, none)] := tX Tryz.call48 follows Tryz.func48 rfl rfl (by decide) (by kernel_rfl) (by kernel_rfl)

def eo1 : AC := rdc (cO Tryz.prog [] 38 Tryz.f49) _ (by conv => lhs; reduce)
def cv9 : AC := rdc (lP 0 eo1) _ (by conv => lhs; reduce)
theorem dx3 : FnText Tryz.prog 49 [] 38 2 eo1 [(4, none)] := tX Tryz.call49 follows Tryz.func49 rfl rfl (by decide) (by kernel_rfl) (by kernel_rfl)

def dw8 : AC := rdc (cO Tryz.prog [] 66 Tryz.f16) _ (by conv => lhs; reduce)
def dj0 : AC := rdc (lP 0 dw8) _ (by conv => lhs; reduce)
def cw9 : AC := rdc (lP 1 dw8) _ (by conv => lhs; reduce)
theorem dt8 : FnText Tryz.prog 16 [] 66 3 dw8 [(6, none)] := tX Tryz.call16 follows Tryz.func16 rfl rfl (by decide) (by kernel_rfl) (by kernel_rfl)

def dy3 : AC := rdc (cO Tryz.prog [4, 7] 21 Tryz.f31) _ (by conv => lhs; reduce)
def cr8 : AC := rdc (lP 0 dy3) _ (by conv => lhs; reduce)
theorem cj6 : FnText Tryz.prog 31 [4, 7] 21 2 dy3 [(4, some (5, true)), (5, none)] := tX Tryz.call31 follows Tryz.func31 rfl rfl (by decide) (by kernel_rfl) (by kernel_rfl)

def dj5 : AC := rdc (cO Tryz.prog [] 17 Tryz.f107) _ (by conv => lhs; reduce)
def bx9 : AC := rdc (lP 0 dj5) _ (by conv => lhs; reduce)
theorem bo0 : FnText Tryz.prog 107 [] 17 1 dj5 [(2, none)] := tX Tryz.call107 follows Tryz.func107 rfl rfl (by decide) (by kernel_rfl) (by kernel_rfl)

def eo5 : AC := rdc (cO Tryz.prog [8] 46 Tryz.f68) _ (by conv => lhs; reduce)
def dh1 : AC := rdc (lP 0 eo5) _ (by conv => lhs; reduce)
theorem cb8 : FnText Tryz.prog 68 [8] 46 3 eo5 [(6, none)] := tX Tryz.call68 follows Tryz.func68 rfl rfl (by decide) (by kernel_rfl) (by kernel_rfl)

def ev5 : AC := rdc (cO Tryz.prog [] 46 Tryz.f34) _ (by conv => lhs; reduce)
theorem co4 : FnText Tryz.prog 34 [] 46 4 ev5 [(8, none)] := tX Tryz.call34 follows Tryz.func34 rfl rfl (by decide) (by kernel_rfl) (by kernel_rfl)

def el2 : AC := rdc (cO Tryz.prog [] 17 Tryz.f109) _ (by conv => lhs; reduce)
theorem bp3 : FnText Tryz.prog 109 [] 17 1 el2 [(2, none)] := tX Tryz.call109 follows Tryz.func109 rfl rfl (by decide) (by kernel_rfl) (by kernel_rfl)

def dm7 : AC := rdc (cO Tryz.prog [] 20 Tryz.f110) _ (by conv => lhs; reduce)
def bz8 : AC := rdc (lP 0 dm7) _ (by conv => lhs; reduce)
theorem bo6 : FnText Tryz.prog 110 [] 20 2 dm7 [(4, none)] := tX Tryz.call110 follows Tryz.func110 rfl rfl (by decide) (by kernel_rfl) (by kernel_rfl)

def ek3 : AC := rdc (cO Tryz.prog [] 9 Tryz.f112) _ (by conv => lhs; reduce)
theorem bo8 : FnText Tryz.prog 112 [] 9 1 ek3 [(2, none)] := tX Tryz.call112 follows Tryz.func112 rfl rfl (by decide) (by kernel_rfl) (by kernel_rfl)

def ej4 : AC := rdc (cO Tryz.prog [] 13 Tryz.f111) _ (by conv => lhs; reduce)
theorem br3 : FnText Tryz.prog 111 [] 13 1 ej4 [(2, none)] := tX Tryz.call111 follows Tryz.func111 rfl rfl (by decide) (by kernel_rfl) (by kernel_rfl)

def es8 : AC := rdc (cO Tryz.prog [] 22 Tryz.f73) _ (by conv => lhs; reduce)
theorem cn0 : FnText Tryz.prog 73 [] 22 1 es8 [(2, none)] := tX Tryz.call73 follows Tryz.func73 rfl rfl (by decide) (by kernel_rfl) (by kernel_rfl)

def ef6 : AC := rdc (cO Tryz.prog [4] 19 Tryz.f144) _ (by conv => lhs; reduce)
theorem bq7 : FnText Tryz.prog 144 [4] 19 2 ef6 [(4, some (2, true))] := tX Tryz.call144 follows Tryz.func144 rfl rfl (by decide) (by kernel_rfl) (by kernel_rfl)

def eq7 : AC := rdc (cO Tryz.prog [] 14 Tryz.f115) _ (by conv => lhs; reduce)
theorem bm0 : FnText Tryz.prog 115 [] 14 2 eq7 [(4, none)] := tX Tryz.call115 follows Tryz.func115 rfl rfl (by decide) (by kernel_rfl) (by kernel_rfl)

def ej0 : AC := rdc (cO Tryz.prog [4] 19 Tryz.f114) _ (by conv => lhs; reduce)
theorem br8 : FnText Tryz.prog 114 [4] 19 2 ej0 [(4, some (2, true))] := tX Tryz.call114 follows Tryz.func114 rfl rfl (by decide) (by kernel_rfl) (by kernel_rfl)

def dj3 : AC := rdc (cO Tryz.prog [] 18 Tryz.f116) _ (by conv => lhs; reduce)
def ca8 : AC := rdc (lP 0 dj3) _ (by conv => lhs; reduce)
theorem bs0 : FnText Tryz.prog 116 [] 18 1 dj3 [(2, none)] := tX Tryz.call116 follows Tryz.func116 rfl rfl (by decide) (by kernel_rfl) (by kernel_rfl)

def ei0 : AC := rdc (cO Tryz.prog [] 10 Tryz.f113) _ (by conv => lhs; reduce)
theorem bp5 : FnText Tryz.prog 113 [] 10 1 ei0 [(2, none)] := tX Tryz.call113 follows Tryz.func113 rfl rfl (by decide) (by kernel_rfl) (by kernel_rfl)

def et9 : AC := rdc (cO Tryz.prog [] 18 Tryz.f81) _ (by conv => lhs; reduce)
theorem cb3 : FnText Tryz.prog 81 [] 18 2 et9 [(4, none)] := tX Tryz.call81 follows Tryz.func81 rfl rfl (by decide) (by kernel_rfl) (by kernel_rfl)

def eo9 : AC := rdc (cO Tryz.prog [9] 44 Tryz.f74) _ (by conv => lhs; reduce)
def de0 : AC := rdc (lP 0 eo9) _ (by conv => lhs; reduce)
theorem cl5 : FnText Tryz.prog 74 [9] 44 2 eo9 [(4, none), (5, none)] := tX Tryz.call74 follows Tryz.func74 rfl rfl (by decide) (by kernel_rfl) (by kernel_rfl)

def ev8 : AC := rdc (cO Tryz.prog [] 14 Tryz.f95) _ (by conv => lhs; reduce)
theorem ci6 : FnText Tryz.prog 95 [] 14 2 ev8 [(4, none)] := tX Tryz.call95 follows Tryz.func95 rfl rfl (by decide) (by kernel_rfl) (by kernel_rfl)

def eg5 : AC := rdc (cO Tryz.prog [] 49 Tryz.f78) _ (by conv => lhs; reduce)
def cy8 : AC := rdc (lP 0 eg5) _ (by conv => lhs; reduce)
theorem ch4 : FnText Tryz.prog 78 [] 49 2 eg5 [(4, none)] := tX Tryz.call78 follows Tryz.func78 rfl rfl (by decide) (by kernel_rfl) (by kernel_rfl)

def en7 : AC := rdc (cO Tryz.prog [] 41 Tryz.f75) _ (by conv => lhs; reduce)
def di3 : AC := rdc (lP 0 en7) _ (by conv => lhs; reduce)
theorem cm7 : FnText Tryz.prog 75 [] 41 2 en7 [(4, none)] := tX Tryz.call75 follows Tryz.func75 rfl rfl (by decide) (by kernel_rfl) (by kernel_rfl)

def es0 : AC := rdc (cO Tryz.prog [6] 62 Tryz.f39) _ (by conv => lhs; reduce)
theorem ci1 : FnText Tryz.prog 39 [6] 62 2 es0 [(4, none), (5, none)] := tX Tryz.call39 follows Tryz.func39 rfl rfl (by decide) (by kernel_rfl) (by kernel_rfl)

def ev4 : AC := rdc (cO Tryz.prog [] 15 Tryz.f80) _ (by conv => lhs; reduce)
theorem cl4 : FnText Tryz.prog 80 [] 15 2 ev4 [(4, none)] := tX Tryz.call80 follows Tryz.func80 rfl rfl (by decide) (by kernel_rfl) (by kernel_rfl)

def eo3 : AC := rdc (cO Tryz.prog [7] 32 Tryz.f45) _ (by conv => lhs; reduce)
def cw8 : AC := rdc (lP 0 eo3) _ (by conv => lhs; reduce)
theorem cd7 : FnText Tryz.prog 45 [7] 32 2 eo3 [(4, none)] := tX Tryz.call45 follows Tryz.func45 rfl rfl (by decide) (by kernel_rfl) (by kernel_rfl)

def ef1 : AC := rdc (cO Tryz.prog [] 19 Tryz.f117) _ (by conv => lhs; reduce)
theorem bo7 : FnText Tryz.prog 117 [] 19 2 ef1 [(4, none)] := tX Tryz.call117 follows Tryz.func117 rfl rfl (by decide) (by kernel_rfl) (by kernel_rfl)

def ep8 : AC := rdc (cO Tryz.prog [] 23 Tryz.f86) _ (by conv => lhs; reduce)
def cw7 : AC := rdc (lP 0 ep8) _ (by conv => lhs; reduce)
theorem ck6 : FnText Tryz.prog 86 [] 23 2 ep8 [(4, none), (5, none)] := tX Tryz.call86 follows Tryz.func86 rfl rfl (by decide) (by kernel_rfl) (by kernel_rfl)

def ev6 : AC := rdc (cO Tryz.prog [] 50 Tryz.f76) _ (by conv => lhs; reduce)
theorem co5 : FnText Tryz.prog 76 [] 50 3 ev6 [(6, none)] := tX Tryz.call76 follows Tryz.func76 rfl rfl (by decide) (by kernel_rfl) (by kernel_rfl)

def em7 : AC := rdc (cO Tryz.prog [7] 33 Tryz.f44) _ (by conv => lhs; reduce)
def da7 : AC := rdc (lP 0 em7) _ (by conv => lhs; reduce)
theorem ce8 : FnText Tryz.prog 44 [7] 33 2 em7 [(4, none)] := tX Tryz.call44 follows Tryz.func44 rfl rfl (by decide) (by kernel_rfl) (by kernel_rfl)

def eo6 : AC := rdc (cO Tryz.prog [] 28 Tryz.f77) _ (by conv => lhs; reduce)
def db8 : AC := rdc (lP 0 eo6) _ (by conv => lhs; reduce)
theorem bx0 : FnText Tryz.prog 77 [] 28 3 eo6 [(6, none)] := tX Tryz.call77 follows Tryz.func77 rfl rfl (by decide) (by kernel_rfl) (by kernel_rfl)

def eh2 : AC := rdc (cO Tryz.prog [12] 92 Tryz.f40) _ (by conv => lhs; reduce)
def cq1 : AC := rdc (lP 0 eh2) _ (by conv => lhs; reduce)
theorem cb9 : FnText Tryz.prog 40 [12] 92 3 eh2 [(6, none)] := tX Tryz.call40 follows Tryz.func40 rfl rfl (by decide) (by kernel_rfl) (by kernel_rfl)

def ei2 : AC := rdc (cO Tryz.prog [6] 37 Tryz.f42) _ (by conv => lhs; reduce)
def dg1 : AC := rdc (lP 0 ei2) _ (by conv => lhs; reduce)
theorem cj4 : FnText Tryz.prog 42 [6] 37 2 ei2 [(4, none)] := tX Tryz.call42 follows Tryz.func42 rfl rfl (by decide) (by kernel_rfl) (by kernel_rfl)

def eh9 : AC := rdc (cO Tryz.prog [] 21 Tryz.f53) _ (by conv => lhs; reduce)
def dc0 : AC := rdc (lP 0 eh9) _ (by conv => lhs; reduce)
theorem ck4 : FnText Tryz.prog 53 [] 21 2 eh9 [(4, none)] := tX Tryz.call53 follows Tryz.func53 rfl rfl (by decide) (by kernel_rfl) (by kernel_rfl)

def el3 : AC := rdc (cO Tryz.prog [4, 5, 7] 42 Tryz.f54) _ (by conv => lhs; reduce)
def di4 : AC := rdc (lP 0 el3) _ (by conv => lhs; reduce)
theorem ca0 : FnText Tryz.prog 54 [4, 5, 7] 42 2 el3 [(4, some (2, true))] := tX Tryz.call54 follows Tryz.func54 rfl rfl (by decide) (by kernel_rfl) (by kernel_rfl)

def en1 : AC := rdc (cO Tryz.prog [] 22 Tryz.f157) _ (by conv => lhs; reduce)
theorem br2 : FnText Tryz.prog 157 [] 22 2 en1 [(4, none)] := tX Tryz.call157 follows Tryz.func157 rfl rfl (by decide) (by kernel_rfl) (by kernel_rfl)

def dj4 : AC := rdc (cO Tryz.prog [6] 39 Tryz.f148) _ (by conv => lhs; reduce)
def cl1 : AC := rdc (lP 0 dj4) _ (by conv => lhs; reduce)
theorem bn7 : FnText Tryz.prog 148 [6] 39 2 dj4 [(4, none)] := tX Tryz.call148 follows Tryz.func148 rfl rfl (by decide) (by kernel_rfl) (by kernel_rfl)

def dm2 : AC := rdc (cO Tryz.prog [5] 30 Tryz.f124) _ (by conv => lhs; reduce)
def by8 : AC := rdc (lP 0 dm2) _ (by conv => lhs; reduce)
theorem bq1 : FnText Tryz.prog 124 [5] 30 1 dm2 [(2, none)] := tX Tryz.call124 follows Tryz.func124 rfl rfl (by decide) (by kernel_rfl) (by kernel_rfl)

def ej5 : AC := rdc (cO Tryz.prog [] 10 Tryz.f99) _ (by conv => lhs; reduce)
theorem ch0 : FnText Tryz.prog 99 [] 10 1 ej5 [(2, none), (3, none)] := tX Tryz.call99 follows Tryz.func99 rfl rfl (by decide) (by kernel_rfl) (by kernel_rfl)

def dl7 : AC := rdc (cO Tryz.prog [8] 34 Tryz.f100) _ (by conv => lhs; reduce)
def cd5 : AC := rdc (lP 0 dl7) _ (by conv => lhs; reduce)
theorem bq8 : FnText Tryz.prog 100 [8] 34 2 dl7 [(4, none)] := tX Tryz.call100 follows Tryz.func100 rfl rfl (by decide) (by kernel_rfl) (by kernel_rfl)

def el6 : AC := rdc (cO Tryz.prog [] 9 Tryz.f125) _ (by conv => lhs; reduce)
theorem bs5 : FnText Tryz.prog 125 [] 9 1 el6 [(2, none)] := tX Tryz.call125 follows Tryz.func125 rfl rfl (by decide) (by kernel_rfl) (by kernel_rfl)

def eg4 : AC := rdc (cO Tryz.prog [] 6 Tryz.f126) _ (by conv => lhs; reduce)
theorem bp9 : FnText Tryz.prog 126 [] 6 1 eg4 [(2, none)] := tX Tryz.call126 follows Tryz.func126 rfl rfl (by decide) (by kernel_rfl) (by kernel_rfl)

def eq8 : AC := rdc (cO Tryz.prog [2] 11 Tryz.f127) _ (by conv => lhs; reduce)
theorem bl4 : FnText Tryz.prog 127 [2] 11 1 eq8 [(2, some (2, true))] := tX Tryz.call127 follows Tryz.func127 rfl rfl (by decide) (by kernel_rfl) (by kernel_rfl)

def dl5 : AC := rdc (cO Tryz.prog [4] 36 Tryz.f128) _ (by conv => lhs; reduce)
theorem bl3 : FnText Tryz.prog 128 [4] 36 2 dl5 [(4, some (2, true)), (5, none)] := tX Tryz.call128 follows Tryz.func128 rfl rfl (by decide) (by kernel_rfl) (by kernel_rfl)

def ej9 : AC := rdc (cO Tryz.prog [] 25 Tryz.f129) _ (by conv => lhs; reduce)
theorem bm5 : FnText Tryz.prog 129 [] 25 1 ej9 [(2, none)] := tX Tryz.call129 follows Tryz.func129 rfl rfl (by decide) (by kernel_rfl) (by kernel_rfl)

def dj2 : AC := rdc (cO Tryz.prog [3, 4, 7, 9, 11] 89 Tryz.f101) _ (by conv => lhs; reduce)
def bb7 : AC := rdc (lP 0 dj2) _ (by conv => lhs; reduce)
theorem bl6 : FnText Tryz.prog 101 [3, 4, 7, 9, 11] 89 3 dj2 [(6, none)] := tX Tryz.call101 follows Tryz.func101 rfl rfl (by decide) (by kernel_rfl) (by kernel_rfl)

def dn8 : AC := rdc (cO Tryz.prog [11, 14, 15] 67 Tryz.f55) _ (by conv => lhs; reduce)
def cv4 : AC := rdc (lP 0 dn8) _ (by conv => lhs; reduce)
def cy9 : AC := rdc (lP 1 dn8) _ (by conv => lhs; reduce)
theorem cm4 : FnText Tryz.prog 55 [11, 14, 15] 67 3 dn8 [(6, none), (7, none)] := tX Tryz.call55 follows Tryz.func55 rfl rfl (by decide) (by kernel_rfl) (by kernel_rfl)

def el0 : AC := rdc (cO Tryz.prog [] 19 Tryz.f82) _ (by conv => lhs; reduce)
def di5 : AC := rdc (lP 0 el0) _ (by conv => lhs; reduce)
theorem cm3 : FnText Tryz.prog 82 [] 19 2 el0 [(4, none)] := tX Tryz.call82 follows Tryz.func82 rfl rfl (by decide) (by kernel_rfl) (by kernel_rfl)

def ek7 : AC := rdc (cO Tryz.prog [5] 20 Tryz.f84) _ (by conv => lhs; reduce)
def dh4 : AC := rdc (lP 0 ek7) _ (by conv => lhs; reduce)
theorem by2 : FnText Tryz.prog 84 [5] 20 1 ek7 [(2, none)] := tX Tryz.call84 follows Tryz.func84 rfl rfl (by decide) (by kernel_rfl) (by kernel_rfl)

def dr1 : AC := rdc (cO Tryz.prog [14, 17] 89 Tryz.f19) _ (by conv => lhs; reduce)
def da8 : AC := rdc (lP 0 dr1) _ (by conv => lhs; reduce)
def ct2 : AC := rdc (lP 1 dr1) _ (by conv => lhs; reduce)
theorem bw8 : FnText Tryz.prog 19 [14, 17] 89 3 dr1 [(6, none), (7, none)] := tX Tryz.call19 follows Tryz.func19 rfl rfl (by decide) (by kernel_rfl) (by kernel_rfl)

def dk4 : AC := rdc (cO Tryz.prog [] 17 Tryz.f108) _ (by conv => lhs; reduce)
def bx1 : AC := rdc (lP 0 dk4) _ (by conv => lhs; reduce)
theorem cz7 : FnText Tryz.prog 108 [] 17 1 dk4 [(2, none)] := tX Tryz.call108 follows Tryz.func108 rfl rfl (by decide) (by kernel_rfl) (by kernel_rfl)

def en6 : AC := rdc (cO Tryz.prog [] 51 Tryz.f71) _ (by conv => lhs; reduce)
def cr3 : AC := rdc (lP 0 en6) _ (by conv => lhs; reduce)
theorem dz4 : FnText Tryz.prog 71 [] 51 3 en6 [(6, none)] := tX Tryz.call71 follows Tryz.func71 rfl rfl (by decide) (by kernel_rfl) (by kernel_rfl)

def es4 : AC := rdc (cO Tryz.prog [] 48 Tryz.f37) _ (by conv => lhs; reduce)
theorem ea9 : FnText Tryz.prog 37 [] 48 4 es4 [(8, none)] := tX Tryz.call37 follows Tryz.func37 rfl rfl (by decide) (by kernel_rfl) (by kernel_rfl)

def ep3 : AC := rdc (cO Tryz.prog [6, 8] 60 Tryz.f57) _ (by conv => lhs; reduce)
def dd8 : AC := rdc (lP 0 ep3) _ (by conv => lhs; reduce)
theorem ea4 : FnText Tryz.prog 57 [6, 8] 60 3 ep3 [(6, some (2, true))] := tX Tryz.call57 follows Tryz.func57 rfl rfl (by decide) (by kernel_rfl) (by kernel_rfl)

def ef4 : AC := rdc (cO Tryz.prog [] 24 Tryz.f25) _ (by conv => lhs; reduce)
def cr1 : AC := rdc (lP 0 ef4) _ (by conv => lhs; reduce)
theorem eb5 : FnText Tryz.prog 25 [] 24 2 ef4 [(4, none)] := tX Tryz.call25 follows Tryz.func25 rfl rfl (by decide) (by kernel_rfl) (by kernel_rfl)

def ef8 : AC := rdc (cO Tryz.prog [] 9 Tryz.f104) _ (by conv => lhs; reduce)
theorem dg7 : FnText Tryz.prog 104 [] 9 1 ef8 [(2, none)] := tX Tryz.call104 follows Tryz.func104 rfl rfl (by decide) (by kernel_rfl) (by kernel_rfl)

def ep0 : AC := rdc (cO Tryz.prog [] 26 Tryz.f142) _ (by conv => lhs; reduce)
theorem cx3 : FnText Tryz.prog 142 [] 26 2 ep0 [(4, none)] := tX Tryz.call142 follows Tryz.func142 rfl rfl (by decide) (by kernel_rfl) (by kernel_rfl)

def dk0 : AC := rdc (cO Tryz.prog [] 43 Tryz.f155) _ (by conv => lhs; reduce)
def cc7 : AC := rdc (lP 0 dk0) _ (by conv => lhs; reduce)
theorem cr9 : FnText Tryz.prog 155 [] 43 2 dk0 [(4, none)] := tX Tryz.call155 follows Tryz.func155 rfl rfl (by decide) (by kernel_rfl) (by kernel_rfl)

def dk2 : AC := rdc (cO Tryz.prog [] 36 Tryz.f140) _ (by conv => lhs; reduce)
def ch5 : AC := rdc (lP 0 dk2) _ (by conv => lhs; reduce)
theorem cq9 : FnText Tryz.prog 140 [] 36 1 dk2 [(2, none)] := tX Tryz.call140 follows Tryz.func140 rfl rfl (by decide) (by kernel_rfl) (by kernel_rfl)

def dm4 : AC := rdc (cO Tryz.prog [] 11 Tryz.f105) _ (by conv => lhs; reduce)
theorem cv5 : FnText Tryz.prog 105 [] 11 1 dm4 [(2, none), (3, none)] := tX Tryz.call105 follows Tryz.func105 rfl rfl (by decide) (by kernel_rfl) (by kernel_rfl)

def dk8 : AC := rdc (cO Tryz.prog [] 14 Tryz.f156) _ (by conv => lhs; reduce)
def ce2 : AC := rdc (lP 0 dk8) _ (by conv => lhs; reduce)
theorem cu8 : FnText Tryz.prog 156 [] 14 1 dk8 [(2, none)] := tX Tryz.call156 follows Tryz.func156 rfl rfl (by decide) (by kernel_rfl) (by kernel_rfl)

def ep9 : AC := rdc (cO Tryz.prog [4] 17 Tryz.f141) _ (by conv => lhs; reduce)
theorem dg5 : FnText Tryz.prog 141 [4] 17 2 ep9 [(4, some (2, true))] := tX Tryz.call141 follows Tryz.func141 rfl rfl (by decide) (by kernel_rfl) (by kernel_rfl)

def dl6 : AC := rdc (cO Tryz.prog [4] 39 Tryz.f143) _ (by conv => lhs; reduce)
theorem cq8 : FnText Tryz.prog 143 [4] 39 2 dl6 [(4, some (2, true)), (5, none)] := tX Tryz.call143 follows Tryz.func143 rfl rfl (by decide) (by kernel_rfl) (by kernel_rfl)

def dm3 : AC := rdc (cO Tryz.prog [7, 8, 10] 91 Tryz.f106) _ (by conv => lhs; reduce)
def by1 : AC := rdc (lP 0 dm3) _ (by conv => lhs; reduce)
theorem df4 : FnText Tryz.prog 106 [7, 8, 10] 91 3 dm3 [(6, none)] := tX Tryz.call106 follows Tryz.func106 rfl rfl (by decide) (by kernel_rfl) (by kernel_rfl)

def cb5 : AC := rdc (cO Tryz.prog [] 85 Tryz.f58) _ (by conv => lhs; reduce)
def cw0 : AC := rdc (lP 0 cb5) _ (by conv => lhs; reduce)
def df0 : AC := rdc (lP 1 cb5) _ (by conv => lhs; reduce)
def dh3 : AC := rdc (lP 2 cb5) _ (by conv => lhs; reduce)
theorem do7 : FnText Tryz.prog 58 [] 85 3 cb5 [(6, none), (7, none)] := tX Tryz.call58 follows Tryz.func58 rfl rfl (by decide) (by kernel_rfl) (by kernel_rfl)

def ek8 : AC := rdc (cO Tryz.prog [] 35 Tryz.f59) _ (by conv => lhs; reduce)
def cy1 : AC := rdc (lP 0 ek8) _ (by conv => lhs; reduce)
theorem du0 : FnText Tryz.prog 59 [] 35 2 ek8 [(4, none)] := tX Tryz.call59 follows Tryz.func59 rfl rfl (by decide) (by kernel_rfl) (by kernel_rfl)

def dc8 : AC := rdc (cO Tryz.prog [] 95 Tryz.f20) _ (by conv => lhs; reduce)
def dg8 : AC := rdc (lP 0 dc8) _ (by conv => lhs; reduce)
def cw5 : AC := rdc (lP 1 dc8) _ (by conv => lhs; reduce)
theorem dv9 : FnText Tryz.prog 20 [] 95 3 dc8 [(6, none), (7, none)] := tX Tryz.call20 follows Tryz.func20 rfl rfl (by decide) (by kernel_rfl) (by kernel_rfl)

def em9 : AC := rdc (cO Tryz.prog [] 26 Tryz.f21) _ (by conv => lhs; reduce)
def dc5 : AC := rdc (lP 0 em9) _ (by conv => lhs; reduce)
theorem cn7 : FnText Tryz.prog 21 [] 26 2 em9 [(4, none)] := tX Tryz.call21 follows Tryz.func21 rfl rfl (by decide) (by kernel_rfl) (by kernel_rfl)

def ac6 : AC := rdc (cO Tryz.prog [] 41 Tryz.f6) _ (by conv => lhs; reduce)
theorem eg3 : FnText Tryz.prog 6 [] 41 1 ac6 [(2, none)] := tX Tryz.call6 follows Tryz.func6 rfl rfl (by decide) (by kernel_rfl) (by kernel_rfl)

def eu5 : AC := rdc (cO Tryz.prog [8, 10, 11] 33 Tryz.f12) _ (by conv => lhs; reduce)
theorem dv2 : FnText Tryz.prog 12 [8, 10, 11] 33 4 eu5 [(8, some (5, true)), (9, none)] := tX Tryz.call12 follows Tryz.func12 rfl rfl (by decide) (by kernel_rfl) (by kernel_rfl)

def eb3 : AC := rdc (cO Tryz.prog [12, 14, 76, 18] 98 Tryz.f15) _ (by conv => lhs; reduce)
def cy5 : AC := rdc (lP 0 eb3) _ (by conv => lhs; reduce)
def cr7 : AC := rdc (lP 1 eb3) _ (by conv => lhs; reduce)
theorem cp4 : FnText Tryz.prog 15 [12, 14, 76, 18] 98 3 eb3 [(6, none), (7, none)] := tX Tryz.call15 follows Tryz.func15 rfl rfl (by decide) (by kernel_rfl) (by kernel_rfl)

def cz3 : List AOper :=
 [⟨(some 16), .move (t_ 0), (some (15, false)), false⟩,
 ⟨(some 17), .nilCheck (t_ 16), (some (15, false)), false⟩,
 ⟨(some 18), .faddr 14 1 false (t_ 17), (some (15, false)), false⟩,
 ⟨(some 19), .load 1 false (t_ 18), (some (15, false)), false⟩,
 ⟨(some 20), .bin .eql 66 (t_ 19) (.const (.map none)), (some (15, false)), false⟩,
 (q_ 21 (.pick (t_ 15) (.const (.bool true)) (t_ 20)))]
def db0 : List AOper :=
 [⟨(some 41), .move (t_ 1), (some (40, false)), false⟩,
 ⟨(some 42), .bi .len [33].toArray 3 [(t_ 41)], (some (40, false)), false⟩,
 ⟨(some 43), .move (t_ 6), (some (40, false)), false⟩,
 ⟨(some 44), .bi .len [85].toArray 3 [(t_ 43)], (some (40, false)), false⟩,
 ⟨(some 45), .bin .neq 3 (t_ 42) (t_ 44), (some (40, false)), false⟩,
 (q_ 46 (.pick (t_ 40) (.const (.bool true)) (t_ 45)))]
def db9 : List AOper :=
 [⟨(some 48), .move (t_ 0), (some (47, false)), false⟩,
 ⟨(some 49), .move (t_ 1), (some (47, false)), false⟩,
 ⟨(some 50), .call (.func 50) [(t_ 48), (t_ 49)], (some (47, false)), false⟩,
 ⟨(some 51), .un .not (t_ 50), (some (47, false)), false⟩,
 (q_ 52 (.pick (t_ 47) (.const (.bool true)) (t_ 51)))]
/-- (*patchbay/lookup.Index).Find -/
def es9 : AC :=
 .seq (r_ [(q_ 4 (.alloc true 44 (.agg [(.int .i64 0), (.slice none 0 0), (.int .i64 0), (.int .i64 0), (.slice none 0 0)].toArray))),
 (q_ 5 (.move (.const (.bool false))))])
 (.seq (.seq (r_ (m_ 13 0 :: (q_ 14 (.bin .eql 49 (t_ 13) (.const (.pointer none)))) :: m_ 15 14 :: (cz3 ++ [])))
 (.cond (t_ 21)
 (.seq (r_ [q_ 22 (.build [(.int .i64 0), (.slice none 0 0), (.int .i64 0), (.int .i64 0), (.slice none 0 0)] []),
 ⟨none, .store 5 (t_ 4) (t_ 22), none, false⟩,
 (q_ 5 (.move (.const (.bool false))))])
 (.ret))
 (.skip)))
 (.seq (.region true [m_ 23 0,
 q_ 24 (.nilCheck (t_ 23)),
 q_ 25 (.faddr 0 9 true (t_ 24)),
 f_ 26 5 25,
 l_ 27 26,
 m_ 28 0,
 q_ 29 (.nilCheck (t_ 28)),
 f_ 30 9 29,
 l_ 31 30,
 q_ 32 (.iaddr 6 (t_ 27) (t_ 31)),
 f_ 33 1 32,
 l_ 34 33,
 m_ 6 34])
 (.seq (.seq (r_ (m_ 35 0 :: (q_ 36 (.nilCheck (t_ 35))) :: f_ 37 10 36 :: l_ 38 37 :: (q_ 39 (.bin .eql 3 (t_ 38) (k_ 3))) :: m_ 40 39 :: (db0 ++ (m_ 47 46 :: (db9 ++ [])))))
 (.cond (t_ 52)
 (.seq (.regionU [m_ 53 0,
 q_ 54 (.nilCheck (t_ 53)),
 q_ 55 (.faddr 0 9 true (t_ 54)),
 q_ 56 (.load 9 true (t_ 55)),
 m_ 57 0,
 q_ 58 (.nilCheck (t_ 57)),
 f_ 59 9 58,
 l_ 60 59,
 m_ 61 0,
 q_ 62 (.nilCheck (t_ 61)),
 f_ 63 12 62,
 l_ 64 63,
 m_ 65 1,
 q_ 66 (.call (.func 12) [(t_ 56), (t_ 60), (t_ 64), (t_ 65)]),
 q_ 67 (.extract (t_ 66) 0),
 q_ 68 (.extract (t_ 66) 1),
 ⟨none, .store 5 (t_ 4) (t_ 67), none, false⟩,
 m_ 5 68])
 (.ret))
 (.skip)))
 (.seq (r_ [m_ 69 1,
 m_ 70 0,
 q_ 71 (.nilCheck (t_ 70)),
 f_ 72 13 71,
 l_ 73 72,
 q_ 74 (.call (.func 51) [(t_ 69), (t_ 73)]),
 (q_ 7 (.alloc true 90 (.agg [(.int .i64 0), (.int .u32 0), (.int .u32 0), (.int .u32 0), (.int .u32 0), (.int .u32 0), (.int .u32 0)].toArray))),
 ⟨none, .store 7 (t_ 7) (t_ 74), none, false⟩])
 (.seq (.seq (r_ [m_ 75 0,
 q_ 76 (.nilCheck (t_ 75)),
 f_ 77 13 76,
 l_ 78 77,
 q_ 79 (.bin .lss 3 (t_ 78) (k_ 0))])
 (.cond (t_ 79)
 (.seq (.region true [m_ 81 0,
 q_ 82 (.nilCheck (t_ 81)),
 f_ 83 14 82,
 l_ 84 83,
 q_ 85 (.load 7 true (t_ 7)),
 q_ 86 (.lookupW 66 90 3 [.i64, .u32, .u32, .u32, .u32, .u32, .u32] (.int .i64 0) true (t_ 84) (t_ 85)),
 m_ 80 86,
 q_ 87 (.extract (t_ 80) 0),
 q_ 88 (.extract (t_ 80) 1),
 m_ 8 87,
 m_ 9 88])
 (.seq (.seq (r_ [m_ 89 9,
 q_ 90 (.un .not (t_ 89))])
 (.cond (t_ 90)
 (.seq (r_ [q_ 91 (.build [(.int .i64 0), (.slice none 0 0), (.int .i64 0), (.int .i64 0), (.slice none 0 0)] []),
 ⟨none, .store 5 (t_ 4) (t_ 91), none, false⟩,
 (q_ 5 (.move (.const (.bool false))))])
 (.ret))
 (.skip)))
 (.seq (r_ [m_ 92 0,
 q_ 93 (.nilCheck (t_ 92)),
 f_ 94 12 93,
 l_ 95 94,
 m_ 96 8,
 q_ 97 (.iaddr 5 (t_ 95) (t_ 96)),
 q_ 98 (.load 5 true (t_ 97)),
 q_ 99 (.call (.func 35) [(t_ 98)]),
 ⟨none, .store 5 (t_ 4) (t_ 99), none, false⟩,
 (q_ 5 (.move (.const (.bool true))))])
 (.ret))))
 (.skip)))
 (.seq (.seq (.region true [m_ 100 0,
 q_ 101 (.nilCheck (t_ 100)),
 f_ 102 15 101,
 l_ 103 102,
 q_ 104 (.load 7 true (t_ 7)),
 q_ 105 (.lookupW 67 90 93 [.i64, .u32, .u32, .u32, .u32, .u32, .u32] (.pointer none) false (t_ 103) (t_ 104)),
 (q_ 106 (.bin .eql 93 (t_ 105) (.const (.pointer none))))])
 (.cond (t_ 106)
 (.seq (r_ [q_ 107 (.build [(.int .i64 0), (.slice none 0 0), (.int .i64 0), (.int .i64 0), (.slice none 0 0)] []),
 ⟨none, .store 5 (t_ 4) (t_ 107), none, false⟩,
 (q_ 5 (.move (.const (.bool false))))])
 (.ret))
 (.skip)))
 (.seq (.regionU [m_ 109 0,
 q_ 110 (.nilCheck (t_ 109)),
 f_ 111 15 110,
 l_ 112 111,
 q_ 113 (.load 7 true (t_ 7)),
 q_ 114 (.lookupW 67 90 93 [.i64, .u32, .u32, .u32, .u32, .u32, .u32] (.pointer none) false (t_ 112) (t_ 113)),
 ⟨(some 115), .move (t_ 1), none, true⟩,
 ⟨(some 116), .move (t_ 0), none, true⟩,
 ⟨(some 117), .nilCheck (t_ 116), none, true⟩,
 ⟨(some 118), .faddr 13 1 false (t_ 117), none, true⟩,
 ⟨(some 119), .load 1 false (t_ 118), none, true⟩,
 ⟨(some 120), .iaddr 1 (t_ 115) (t_ 119), none, true⟩,
 ⟨(some 121), .load 1 false (t_ 120), none, true⟩,
 q_ 122 (.call (.func 52) [(t_ 114), (t_ 121)]),
 m_ 108 122,
 q_ 123 (.extract (t_ 108) 0),
 q_ 124 (.extract (t_ 108) 1),
 q_ 125 (.extract (t_ 108) 2),
 m_ 10 123,
 m_ 11 124,
 m_ 12 125])
 (.seq (.seq (r_ [m_ 126 12,
 q_ 127 (.un .not (t_ 126))])
 (.cond (t_ 127)
 (.seq (r_ [q_ 128 (.build [(.int .i64 0), (.slice none 0 0), (.int .i64 0), (.int .i64 0), (.slice none 0 0)] []),
 ⟨none, .store 5 (t_ 4) (t_ 128), none, false⟩,
 (q_ 5 (.move (.const (.bool false))))])
 (.ret))
 (.skip)))
 (.seq (r_ [m_ 129 0,
 q_ 130 (.nilCheck (t_ 129)),
 f_ 131 12 130,
 l_ 132 131,
 m_ 133 10,
 q_ 134 (.iaddr 5 (t_ 132) (t_ 133)),
 q_ 135 (.load 5 true (t_ 134)),
 q_ 136 (.call (.func 35) [(t_ 135)]),
 ⟨none, .store 5 (t_ 4) (t_ 136), none, false⟩,
 (q_ 5 (.move (.const (.bool true))))])
 (.ret))))))))))
theorem dp8 : FnText Tryz.prog 17 [4, 7, 1000001] 137 2 es9 [(4, some (5, true)), (5, none)] :=
 ⟨Tryz.call17, follows, Tryz.f17, _, Tryz.func17, rfl, rfl, by decide, by kernel_rfl, by kernel_rfl⟩

def ev7 : AC := rdc (cO Tryz.prog [] 10 Tryz.f18) _ (by conv => lhs; reduce)
theorem dn7 : FnText Tryz.prog 18 [] 10 1 ev7 [(2, none)] := tX Tryz.call18 follows Tryz.func18 rfl rfl (by decide) (by kernel_rfl) (by kernel_rfl)

def et0 : AC := rdc (cO Tryz.prog [] 8 Tryz.f29) _ (by conv => lhs; reduce)
theorem dv7 : FnText Tryz.prog 29 [] 8 2 et0 [(3, none)] := tX Tryz.call29 follows Tryz.func29 rfl rfl (by decide) (by kernel_rfl) (by kernel_rfl)

def eu6 : AC := rdc (cO Tryz.prog [7] 21 Tryz.f32) _ (by conv => lhs; reduce)
theorem ec1 : FnText Tryz.prog 32 [7] 21 5 eu6 [(6, none)] := tX Tryz.call32 follows Tryz.func32 rfl rfl (by decide) (by kernel_rfl) (by kernel_rfl)

def er9 : AC := rdc (cO Tryz.prog [] 17 Tryz.f33) _ (by conv => lhs; reduce)
theorem dr0 : FnText Tryz.prog 33 [] 17 5 er9 [(6, none)] := tX Tryz.call33 follows Tryz.func33 rfl rfl (by decide) (by kernel_rfl) (by kernel_rfl)

def et7 : AC := rdc (cO Tryz.prog [1, 2] 18 Tryz.f35) _ (by conv => lhs; reduce)
theorem cg4 : FnText Tryz.prog 35 [1, 2] 18 1 et7 [(2, some (5, true))] := tX Tryz.call35 follows Tryz.func35 rfl rfl (by decide) (by kernel_rfl) (by kernel_rfl)

def et6 : AC := rdc (cO Tryz.prog [] 9 Tryz.f41) _ (by conv => lhs; reduce)
theorem ci7 : FnText Tryz.prog 41 [] 9 2 et6 [(3, none)] := tX Tryz.call41 follows Tryz.func41 rfl rfl (by decide) (by kernel_rfl) (by kernel_rfl)

def et8 : AC := rdc (cO Tryz.prog [4, 5] 23 Tryz.f43) _ (by conv => lhs; reduce)
theorem ck0 : FnText Tryz.prog 43 [4, 5] 23 2 et8 [(4, some (9, true))] := tX Tryz.call43 follows Tryz.func43 rfl rfl (by decide) (by kernel_rfl) (by kernel_rfl)

def bp7 : AC :=
 .seq (r_ [q_ 38 (.bin .lss 3 (t_ 37) (t_ 36))])
 (.seq (.cond (t_ 38)
 (.skip)
 (.exit 0))
 (.seq (.block 1 (.seq (r_ [m_ 39 37,
 q_ 40 (.iaddr 5 (t_ 35) (t_ 37)),
 q_ 41 (.load 5 true (t_ 40)),
 (q_ 3 (.alloc true 44 (.agg [(.int .i64 0), (.slice none 0 0), (.int .i64 0), (.int .i64 0), (.slice none 0 0)].toArray))),
 m_ 2 39,
 ⟨none, .store 5 (t_ 3) (t_ 41), none, false⟩])
 (.seq (.region true [q_ 42 (.faddr 1 4 true (t_ 3)),
 q_ 43 (.load 4 true (t_ 42)),
 q_ 44 (.call (.func 84) [(t_ 43)]),
 m_ 45 0,
 q_ 46 (.nilCheck (t_ 45)),
 f_ 47 13 46,
 l_ 48 47,
 q_ 49 (.call (.func 51) [(t_ 44), (t_ 48)]),
 (q_ 4 (.alloc true 90 (.agg [(.int .i64 0), (.int .u32 0), (.int .u32 0), (.int .u32 0), (.int .u32 0), (.int .u32 0), (.int .u32 0)].toArray))),
 ⟨none, .store 7 (t_ 4) (t_ 49), none, false⟩])
 (.seq (.seq (r_ [m_ 50 0,
 q_ 51 (.nilCheck (t_ 50)),
 f_ 52 13 51,
 l_ 53 52,
 q_ 54 (.bin .lss 3 (t_ 53) (k_ 0))])
 (.cond (t_ 54)
 (.seq (.region true [m_ 55 0,
 q_ 56 (.nilCheck (t_ 55)),
 f_ 57 14 56,
 l_ 58 57,
 q_ 59 (.load 7 true (t_ 4)),
 m_ 60 2,
 ⟨none, .mapUpdW 66 90 [.i64, .u32, .u32, .u32, .u32, .u32, .u32] (t_ 58) (t_ 59) (t_ 60), none, false⟩])
 (.exit 1))
 (.skip)))
 (.seq (.region true [m_ 61 0,
 q_ 62 (.nilCheck (t_ 61)),
 f_ 63 11 62,
 l_ 64 63,
 m_ 65 0,
 q_ 66 (.nilCheck (t_ 65)),
 f_ 67 13 66,
 l_ 68 67,
 q_ 69 (.iaddr 1 (t_ 64) (t_ 68)),
 l_ 70 69,
 m_ 5 70])
 (.seq (.seq (.region true [m_ 71 0,
 q_ 72 (.nilCheck (t_ 71)),
 f_ 73 15 72,
 l_ 74 73,
 q_ 75 (.load 7 true (t_ 4)),
 q_ 76 (.lookupW 67 90 93 [.i64, .u32, .u32, .u32, .u32, .u32, .u32] (.pointer none) false (t_ 74) (t_ 75)),
 (q_ 77 (.bin .eql 93 (t_ 76) (.const (.pointer none))))])
 (.cond (t_ 77)
 (.seq (r_ [m_ 79 5,
 q_ 80 (.call (.func 85) [(t_ 79)]),
 m_ 78 80,
 q_ 81 (.extract (t_ 78) 0),
 q_ 82 (.extract (t_ 78) 1),
 m_ 6 81,
 m_ 7 82])
 (.seq (r_ [m_ 83 7,
 q_ 84 (.bin .eql 50 (t_ 83) (k_ 0))])
 (.cond (t_ 84)
 (.region true [m_ 85 0,
 q_ 86 (.nilCheck (t_ 85)),
 f_ 87 15 86,
 l_ 88 87,
 q_ 89 (.load 7 true (t_ 4)),
 m_ 90 6,
 ⟨none, .mapUpdW 67 90 [.i64, .u32, .u32, .u32, .u32, .u32, .u32] (t_ 88) (t_ 89) (t_ 90), none, false⟩])
 (.skip))))
 (.skip)))
 (.seq (.region true [q_ 91 (.faddr 1 4 true (t_ 3)),
 f_ 92 0 91,
 l_ 93 92,
 m_ 94 0,
 q_ 95 (.nilCheck (t_ 94)),
 f_ 96 13 95,
 l_ 97 96,
 q_ 98 (.iaddr 2 (t_ 93) (t_ 97)),
 q_ 99 (.load 2 true (t_ 98)),
 (q_ 8 (.alloc true 127 (.agg [(.int .u32 0), (.int .u32 0)].toArray))),
 ⟨none, .store 2 (t_ 8) (t_ 99), none, false⟩])
 (.seq (r_ [f_ 101 1 8,
 l_ 102 101,
 m_ 103 5,
 q_ 104 (.call (.func 86) [(t_ 102), (t_ 103)]),
 m_ 100 104,
 q_ 105 (.extract (t_ 100) 0),
 q_ 106 (.extract (t_ 100) 1),
 m_ 9 105,
 m_ 10 106])
 (.seq (r_ [m_ 107 10])
 (.cond (t_ 107)
 (.regionU [m_ 108 0,
 q_ 109 (.nilCheck (t_ 108)),
 f_ 110 15 109,
 l_ 111 110,
 q_ 112 (.load 7 true (t_ 4)),
 q_ 113 (.lookupW 67 90 93 [.i64, .u32, .u32, .u32, .u32, .u32, .u32] (.pointer none) false (t_ 111) (t_ 112)),
 ⟨(some 114), .faddr 0 1 false (t_ 8), none, true⟩,
 ⟨(some 115), .load 1 false (t_ 114), none, true⟩,
 ⟨(some 116), .move (t_ 9), none, true⟩,
 ⟨(some 117), .move (t_ 2), none, true⟩,
 q_ 118 (.call (.func 87) [(t_ 113), (t_ 115), (t_ 116), (t_ 117)])])
 (.skip)))))))))))
 (r_ [q_ 119 (.bin .add 3 (t_ 37) (k_ 1)),
 m_ 37 119])))
/-- (*patchbay/lookup.Index).build -/
def es6 : AC :=
 .seq (.seq (r_ [m_ 11 0,
 q_ 12 (.nilCheck (t_ 11)),
 f_ 13 10 12,
 l_ 14 13,
 q_ 15 (.bin .eql 3 (t_ 14) (k_ 3))])
 (.cond (t_ 15)
 (.ret)
 (.skip)))
 (.seq (.regionU [⟨(some 16), .move (t_ 0), none, true⟩,
 m_ 17 0,
 q_ 18 (.nilCheck (t_ 17)),
 q_ 19 (.faddr 0 9 true (t_ 18)),
 f_ 20 5 19,
 l_ 21 20,
 m_ 22 0,
 q_ 23 (.nilCheck (t_ 22)),
 f_ 24 9 23,
 l_ 25 24,
 q_ 26 (.iaddr 6 (t_ 21) (t_ 25)),
 f_ 27 1 26,
 l_ 28 27,
 q_ 29 (.call (.func 82) [(t_ 28), (.func 83)]),
 q_ 30 (.nilCheck (t_ 16)),
 f_ 31 13 30,
 ⟨none, .store 1 (t_ 31) (t_ 29), none, false⟩])
 (.seq (r_ [m_ 32 0,
 q_ 33 (.nilCheck (t_ 32)),
 f_ 34 12 33,
 l_ 35 34,
 n_ 36 32 35,
 q_ 37 (.move (k_ 0))])
 (.block 0 (.loop bp7))))
theorem cb0 : FnText Tryz.prog 46 [3, 4, 8, 1000001] 120 1 es6 [] :=
 ⟨Tryz.call46, follows, Tryz.f46, _, Tryz.func46, rfl, rfl, by decide, by kernel_rfl, by kernel_rfl⟩

def eh6 : AC := rdc (cO Tryz.prog [] 25 Tryz.f50) _ (by conv => lhs; reduce)
def er5 : AC := rdc (lP 0 eh6) _ (by conv => lhs; reduce)
theorem dq7 : FnText Tryz.prog 50 [] 25 2 eh6 [(4, none)] := tX Tryz.call50 follows Tryz.func50 rfl rfl (by decide) (by kernel_rfl) (by kernel_rfl)

def ei7 : AC := rdc (cO Tryz.prog [4, 5] 34 Tryz.f51) _ (by conv => lhs; reduce)
def bo4 : AC := rdc (lP 0 ei7) _ (by conv => lhs; reduce)
theorem cd8 : FnText Tryz.prog 51 [4, 5] 34 2 ei7 [(4, some (7, true))] := tX Tryz.call51 follows Tryz.func51 rfl rfl (by decide) (by kernel_rfl) (by kernel_rfl)

def ek5 : AC := rdc (cO Tryz.prog [] 53 Tryz.f52) _ (by conv => lhs; reduce)
def er7 : AC := rdc (lP 0 ek5) _ (by conv => lhs; reduce)
theorem ds4 : FnText Tryz.prog 52 [] 53 2 ek5 [(4, none), (5, none), (6, none)] := tX Tryz.call52 follows Tryz.func52 rfl rfl (by decide) (by kernel_rfl) (by kernel_rfl)

def es5 : AC := rdc (cO Tryz.prog [] 8 Tryz.f69) _ (by conv => lhs; reduce)
theorem cf9 : FnText Tryz.prog 69 [] 8 1 es5 [(2, none)] := tX Tryz.call69 follows Tryz.func69 rfl rfl (by decide) (by kernel_rfl) (by kernel_rfl)

def es1 : AC := rdc (cO Tryz.prog [] 8 Tryz.f70) _ (by conv => lhs; reduce)
theorem bz0 : FnText Tryz.prog 70 [] 8 1 es1 [(2, none)] := tX Tryz.call70 follows Tryz.func70 rfl rfl (by decide) (by kernel_rfl) (by kernel_rfl)

def et2 : AC := rdc (cO Tryz.prog [] 8 Tryz.f79) _ (by conv => lhs; reduce)
theorem cg6 : FnText Tryz.prog 79 [] 8 1 et2 [(2, none)] := tX Tryz.call79 follows Tryz.func79 rfl rfl (by decide) (by kernel_rfl) (by kernel_rfl)

def ev1 : AC := rdc (cO Tryz.prog [] 6 Tryz.f83) _ (by conv => lhs; reduce)
theorem cg5 : FnText Tryz.prog 83 [] 6 1 ev1 [(2, none)] := tX Tryz.call83 follows Tryz.func83 rfl rfl (by decide) (by kernel_rfl) (by kernel_rfl)

def ev3 : AC := rdc (cO Tryz.prog [9] 12 Tryz.f85) _ (by conv => lhs; reduce)
theorem cb2 : FnText Tryz.prog 85 [9] 12 1 ev3 [(2, none), (3, none)] := tX Tryz.call85 follows Tryz.func85 rfl rfl (by decide) (by kernel_rfl) (by kernel_rfl)

def eh3 : AC := rdc (cO Tryz.prog [44] 66 Tryz.f87) _ (by conv => lhs; reduce)
def at7 : AC := rdc (lP 0 eh3) _ (by conv => lhs; reduce)
theorem bw9 : FnText Tryz.prog 87 [44] 66 4 eh3 [(8, none)] := tX Tryz.call87 follows Tryz.func87 rfl rfl (by decide) (by kernel_rfl) (by kernel_rfl)

def et4 : AC := rdc (cO Tryz.prog [] 12 Tryz.f96) _ (by conv => lhs; reduce)
theorem cn8 : FnText Tryz.prog 96 [] 12 1 et4 [(2, none)] := tX Tryz.call96 follows Tryz.func96 rfl rfl (by decide) (by kernel_rfl) (by kernel_rfl)

def eu3 : AC := rdc (cO Tryz.prog [] 25 Tryz.f97) _ (by conv => lhs; reduce)
theorem co0 : FnText Tryz.prog 97 [] 25 3 eu3 [(6, none)] := tX Tryz.call97 follows Tryz.func97 rfl rfl (by decide) (by kernel_rfl) (by kernel_rfl)

def eu4 : AC := rdc (cO Tryz.prog [] 17 Tryz.f98) _ (by conv => lhs; reduce)
theorem cj7 : FnText Tryz.prog 98 [] 17 3 eu4 [(6, none)] := tX Tryz.call98 follows Tryz.func98 rfl rfl (by decide) (by kernel_rfl) (by kernel_rfl)

def ev2 : AC := rdc (cO Tryz.prog [0, 2] 30 Tryz.f28) _ (by conv => lhs; reduce)
theorem dw6 : FnText Tryz.prog 28 [0, 2] 30 0 ev2 [(0, some (9, true)), (1, none)] := tX Tryz.call28 follows Tryz.func28 rfl rfl (by decide) (by kernel_rfl) (by kernel_rfl)

def es3 : AC := rdc (cO Tryz.prog [0] 8 Tryz.f67) _ (by conv => lhs; reduce)
theorem dw9 : FnText Tryz.prog 67 [0] 8 0 es3 [(0, some (9, true))] := tX Tryz.call67 follows Tryz.func67 rfl rfl (by decide) (by kernel_rfl) (by kernel_rfl)

def eq5 : AC := rdc (cO Tryz.prog [6] 33 Tryz.f30) _ (by conv => lhs; reduce)
def er8 : AC := rdc (lP 0 eq5) _ (by conv => lhs; reduce)
theorem dq2 : FnText Tryz.prog 30 [6] 33 2 eq5 [(4, none)] := tX Tryz.call30 follows Tryz.func30 rfl rfl (by decide) (by kernel_rfl) (by kernel_rfl)

def eu8 : AC := rdc (cO Tryz.prog [] 11 Tryz.f56) _ (by conv => lhs; reduce)
theorem cd9 : FnText Tryz.prog 56 [] 11 1 eu8 [] := tX Tryz.call56 follows Tryz.func56 rfl rfl (by decide) (by kernel_rfl) (by kernel_rfl)

def ep4 : AC := rdc (cO Tryz.prog [] 8 Tryz.f103) _ (by conv => lhs; reduce)
theorem cu5 : FnText Tryz.prog 103 [] 8 1 ep4 [(2, none)] := tX Tryz.call103 follows Tryz.func103 rfl rfl (by decide) (by kernel_rfl) (by kernel_rfl)

def em5 : AC := rdc (cO Tryz.prog [] 19 Tryz.f139) _ (by conv => lhs; reduce)
theorem cu3 : FnText Tryz.prog 139 [] 19 1 em5 [(2, none)] := tX Tryz.call139 follows Tryz.func139 rfl rfl (by decide) (by kernel_rfl) (by kernel_rfl)

def dl8 : AC := rdc (cO Tryz.prog [] 134 Tryz.f102) _ (by conv => lhs; reduce)
def em2 : AC := rdc (lP 0 dl8) _ (by conv => lhs; reduce)
theorem cp8 : FnText Tryz.prog 102 [] 134 4 dl8 [] := tX Tryz.call102 follows Tryz.func102 rfl rfl (by decide) (by kernel_rfl) (by kernel_rfl)

def cc1 : AC := rdc (cO Tryz.prog [] 49 Tryz.f130) _ (by conv => lhs; reduce)
def eq1 : AC := rdc (lP 0 cc1) _ (by conv => lhs; reduce)
def el8 : AC := rdc (lP 1 cc1) _ (by conv => lhs; reduce)
theorem cu1 : FnText Tryz.prog 130 [] 49 3 cc1 [] := tX Tryz.call130 follows Tryz.func130 rfl rfl (by decide) (by kernel_rfl) (by kernel_rfl)

def ee8 : AC := rdc (cO Tryz.prog [] 17 Tryz.f136) _ (by conv => lhs; reduce)
theorem cu0 : FnText Tryz.prog 136 [] 17 2 ee8 [(4, none)] := tX Tryz.call136 follows Tryz.func136 rfl rfl (by decide) (by kernel_rfl) (by kernel_rfl)

def em6 : AC := rdc (cO Tryz.prog [] 6 Tryz.f154) _ (by conv => lhs; reduce)
theorem cx9 : FnText Tryz.prog 154 [] 6 1 em6 [(2, none)] := tX Tryz.call154 follows Tryz.func154 rfl rfl (by decide) (by kernel_rfl) (by kernel_rfl)

def cd6 : AC := rdc (cO Tryz.prog [] 56 Tryz.f131) _ (by conv => lhs; reduce)
def el7 : AC := rdc (lP 0 cd6) _ (by conv => lhs; reduce)
def ei4 : AC := rdc (lP 1 cd6) _ (by conv => lhs; reduce)
theorem ct3 : FnText Tryz.prog 131 [] 56 3 cd6 [] := tX Tryz.call131 follows Tryz.func131 rfl rfl (by decide) (by kernel_rfl) (by kernel_rfl)

def dm6 : AC := rdc (cO Tryz.prog [] 76 Tryz.f149) _ (by conv => lhs; reduce)
def eg8 : AC := rdc (lP 0 dm6) _ (by conv => lhs; reduce)
theorem ct9 : FnText Tryz.prog 149 [] 76 4 dm6 [] := tX Tryz.call149 follows Tryz.func149 rfl rfl (by decide) (by kernel_rfl) (by kernel_rfl)

def dj6 : AC := rdc (cO Tryz.prog [7] 65 Tryz.f132) _ (by conv => lhs; reduce)
def en4 : AC := rdc (lP 0 dj6) _ (by conv => lhs; reduce)
theorem cv2 : FnText Tryz.prog 132 [7] 65 3 dj6 [] := tX Tryz.call132 follows Tryz.func132 rfl rfl (by decide) (by kernel_rfl) (by kernel_rfl)

def eh7 : AC := rdc (cO Tryz.prog [] 7 Tryz.f150) _ (by conv => lhs; reduce)
theorem cx7 : FnText Tryz.prog 150 [] 7 1 eh7 [(2, none)] := tX Tryz.call150 follows Tryz.func150 rfl rfl (by decide) (by kernel_rfl) (by kernel_rfl)

def ei8 : AC := rdc (cO Tryz.prog [] 33 Tryz.f151) _ (by conv => lhs; reduce)
theorem cw2 : FnText Tryz.prog 151 [] 33 1 ei8 [(2, none)] := tX Tryz.call151 follows Tryz.func151 rfl rfl (by decide) (by kernel_rfl) (by kernel_rfl)

def eo8 : AC := rdc (cO Tryz.prog [9] 57 Tryz.f133) _ (by conv => lhs; reduce)
theorem da4 : FnText Tryz.prog 133 [9] 57 3 eo8 [(6, none), (7, none)] := tX Tryz.call133 follows Tryz.func133 rfl rfl (by decide) (by kernel_rfl) (by kernel_rfl)

def eh8 : AC := rdc (cO Tryz.prog [] 15 Tryz.f152) _ (by conv => lhs; reduce)
theorem dg4 : FnText Tryz.prog 152 [] 15 3 eh8 [(6, none)] := tX Tryz.call152 follows Tryz.func152 rfl rfl (by decide) (by kernel_rfl) (by kernel_rfl)

def ei9 : AC := rdc (cO Tryz.prog [] 36 Tryz.f153) _ (by conv => lhs; reduce)
theorem cz6 : FnText Tryz.prog 153 [] 36 5 ei9 [(10, none)] := tX Tryz.call153 follows Tryz.func153 rfl rfl (by decide) (by kernel_rfl) (by kernel_rfl)

def ej6 : AC := rdc (cO Tryz.prog [] 28 Tryz.f158) _ (by conv => lhs; reduce)
theorem da2 : FnText Tryz.prog 158 [] 28 4 ej6 [(8, none), (9, none)] := tX Tryz.call158 follows Tryz.func158 rfl rfl (by decide) (by kernel_rfl) (by kernel_rfl)

def dj1 : AC := rdc (cO Tryz.prog [] 32 Tryz.f134) _ (by conv => lhs; reduce)
def ep6 : AC := rdc (lP 0 dj1) _ (by conv => lhs; reduce)
theorem dc3 : FnText Tryz.prog 134 [] 32 3 dj1 [] := tX Tryz.call134 follows Tryz.func134 rfl rfl (by decide) (by kernel_rfl) (by kernel_rfl)

def bc7 : AC := rdc (cO Tryz.prog [] 133 Tryz.f135) _ (by conv => lhs; reduce)
def ei6 : AC := rdc (lP 0 bc7) _ (by conv => lhs; reduce)
def ef2 : AC := rdc (lP 1 bc7) _ (by conv => lhs; reduce)
def en8 : AC := rdc (lP 2 bc7) _ (by conv => lhs; reduce)
def ej3 : AC := rdc (lP 3 bc7) _ (by conv => lhs; reduce)
theorem cs6 : FnText Tryz.prog 135 [] 133 3 bc7 [(6, none)] := tX Tryz.call135 follows Tryz.func135 rfl rfl (by decide) (by kernel_rfl) (by kernel_rfl)

def bn5 : AC := rdc (cO Tryz.prog [] 84 Tryz.f137) _ (by conv => lhs; reduce)
def ed7 : AC := rdc (lP 0 bn5) _ (by conv => lhs; reduce)
def ee1 : AC := rdc (lP 1 bn5) _ (by conv => lhs; reduce)
def er0 : AC := rdc (lP 2 bn5) _ (by conv => lhs; reduce)
theorem db2 : FnText Tryz.prog 137 [] 84 4 bn5 [(8, none)] := tX Tryz.call137 follows Tryz.func137 rfl rfl (by decide) (by kernel_rfl) (by kernel_rfl)

def ap0 : AC := rdc (cO Tryz.prog [] 168 Tryz.f138) _ (by conv => lhs; reduce)
def em1 : AC := rdc (lP 0 ap0) _ (by conv => lhs; reduce)
def er4 : AC := rdc (lP 1 ap0) _ (by conv => lhs; reduce)
def eg2 : AC := rdc (lP 2 ap0) _ (by conv => lhs; reduce)
def ek6 : AC := rdc (lP 3 ap0) _ (by conv => lhs; reduce)
def eq4 : AC := rdc (lP 4 ap0) _ (by conv => lhs; reduce)
theorem de4 : FnText Tryz.prog 138 [] 168 4 ap0 [(8, none), (9, none)] := tX Tryz.call138 follows Tryz.func138 rfl rfl (by decide) (by kernel_rfl) (by kernel_rfl)

end Go.Proofs.YthdnpgpnodgicaaGreat
