/-
 The text of each function of this seat, as the plain library tells it; each by the kernel's own reckoning from the program.
-/
import Derived.Test.YthdnpgpnodgicaaGreatPbV
import Derived.Test.YthdnpgpnodgicaaGreatRows
set_option linter.unusedVariables false
set_option maxRecDepth 100000
namespace Go.Proofs.YthdnpgpnodgicaaGreat
open Go Go.Pb
abbrev q_ (d : Nat) (o : AOp) : AOper := ⟨some d, o, none, false⟩
abbrev t_ (n : Nat) : Operand := .tmp n
abbrev k_ (i : Int) : Operand := .const (.int .i64 i)
abbrev m_ (d n : Nat) : AOper := ⟨some d, .move (.tmp n), none, false⟩
abbrev l_ (d n : Nat) : AOper := ⟨some d, .load 1 false (.tmp n), none, false⟩
abbrev f_ (d a n : Nat) : AOper := ⟨some d, .faddr a 1 false (.tmp n), none, false⟩
abbrev n_ (d a n : Nat) : AOper := ⟨some d, .bi .len [a].toArray 3 [.tmp n], none, false⟩
abbrev r_ (l : List AOper) : AC := .region false l
abbrev z_ : Operand := .const (.slice none 0 0)
theorem follows : Tryz.prog.follows .mixedOrders = true := by kernel_rfl
def eb6 : AC := rdc (cO Tryz.prog [] 50 Tryz.f63) _ (by conv => lhs; reduce)
def ct0 : AC := rdc (lP 0 eb6) _ (by conv => lhs; reduce)
theorem du3 : FnText Tryz.prog 63 [] 50 2 eb6 [(4, none)] := tX Tryz.call63 follows Tryz.func63 rfl rfl (by decide) (by kernel_rfl) (by kernel_rfl)

def ej5 : AC := rdc (cO Tryz.prog [] 29 Tryz.f64) _ (by conv => lhs; reduce)
def cy4 : AC := rdc (lP 0 ej5) _ (by conv => lhs; reduce)
theorem dp1 : FnText Tryz.prog 64 [] 29 1 ej5 [(2, none)] := tX Tryz.call64 follows Tryz.func64 rfl rfl (by decide) (by kernel_rfl) (by kernel_rfl)

def eb1 : AC := rdc (cO Tryz.prog [] 45 Tryz.f65) _ (by conv => lhs; reduce)
def de3 : AC := rdc (lP 0 eb1) _ (by conv => lhs; reduce)
theorem ds2 : FnText Tryz.prog 65 [] 45 1 eb1 [(2, none)] := tX Tryz.call65 follows Tryz.func65 rfl rfl (by decide) (by kernel_rfl) (by kernel_rfl)

def en5 : AC := rdc (cO Tryz.prog [] 19 Tryz.f66) _ (by conv => lhs; reduce)
theorem dq6 : FnText Tryz.prog 66 [] 19 1 en5 [(2, none)] := tX Tryz.call66 follows Tryz.func66 rfl rfl (by decide) (by kernel_rfl) (by kernel_rfl)

def cc6 : AC := rdc (cO Tryz.prog [] 145 Tryz.f27) _ (by conv => lhs; reduce)
def cr3 : AC := rdc (lP 0 cc6) _ (by conv => lhs; reduce)
def da4 : AC := rdc (lP 1 cc6) _ (by conv => lhs; reduce)
def cv1 : AC := rdc (lP 2 cc6) _ (by conv => lhs; reduce)
def cw3 : AC := rdc (lP 3 cc6) _ (by conv => lhs; reduce)
theorem dw7 : FnText Tryz.prog 27 [] 145 1 cc6 [(2, none)] := tX Tryz.call27 follows Tryz.func27 rfl rfl (by decide) (by kernel_rfl) (by kernel_rfl)

def eh2 : AC := rdc (cO Tryz.prog [] 47 Tryz.f10) _ (by conv => lhs; reduce)
def dc4 : AC := rdc (lP 0 eh2) _ (by conv => lhs; reduce)
theorem do2 : FnText Tryz.prog 10 [] 47 1 eh2 [(2, none)] := tX Tryz.call10 follows Tryz.func10 rfl rfl (by decide) (by kernel_rfl) (by kernel_rfl)

def eq6 : AC := rdc (cO Tryz.prog [1, 3, 5, 9] 89 Tryz.f11) _ (by conv => lhs; reduce)
theorem dj4 : FnText Tryz.prog 11 [1, 3, 5, 9] 89 0 eq6 [(0, none)] := tX Tryz.call11 follows Tryz.func11 rfl rfl (by decide) (by kernel_rfl) (by kernel_rfl)

def ef3 : AC := rdc (cO Tryz.prog [] 17 Tryz.f118) _ (by conv => lhs; reduce)
theorem de4 : FnText Tryz.prog 118 [] 17 1 ef3 [(2, none)] := tX Tryz.call118 follows Tryz.func118 rfl rfl (by decide) (by kernel_rfl) (by kernel_rfl)

def ee8 : AC := rdc (cO Tryz.prog [] 9 Tryz.f119) _ (by conv => lhs; reduce)
theorem cy6 : FnText Tryz.prog 119 [] 9 1 ee8 [(2, none)] := tX Tryz.call119 follows Tryz.func119 rfl rfl (by decide) (by kernel_rfl) (by kernel_rfl)

def ej8 : AC := rdc (cO Tryz.prog [] 41 Tryz.f88) _ (by conv => lhs; reduce)
def cv3 : AC := rdc (lP 0 ej8) _ (by conv => lhs; reduce)
theorem dj6 : FnText Tryz.prog 88 [] 41 1 ej8 [(2, none)] := tX Tryz.call88 follows Tryz.func88 rfl rfl (by decide) (by kernel_rfl) (by kernel_rfl)

def er1 : AC := rdc (cO Tryz.prog [] 63 Tryz.f62) _ (by conv => lhs; reduce)
theorem dx2 : FnText Tryz.prog 62 [] 63 2 er1 [(4, none)] := tX Tryz.call62 follows Tryz.func62 rfl rfl (by decide) (by kernel_rfl) (by kernel_rfl)

def ec4 : AC := rdc (cO Tryz.prog [] 62 Tryz.f89) _ (by conv => lhs; reduce)
def da1 : AC := rdc (lP 0 ec4) _ (by conv => lhs; reduce)
theorem dx0 : FnText Tryz.prog 89 [] 62 2 ec4 [(4, none), (5, none)] := tX Tryz.call89 follows Tryz.func89 rfl rfl (by decide) (by kernel_rfl) (by kernel_rfl)

def di1 : AC := rdc (cO Tryz.prog [] 19 Tryz.f120) _ (by conv => lhs; reduce)
def bx8 : AC := rdc (lP 0 di1) _ (by conv => lhs; reduce)
theorem cs4 : FnText Tryz.prog 120 [] 19 2 di1 [(4, none)] := tX Tryz.call120 follows Tryz.func120 rfl rfl (by decide) (by kernel_rfl) (by kernel_rfl)

def eb5 : AC := rdc (cO Tryz.prog [] 9 Tryz.f145) _ (by conv => lhs; reduce)
theorem cr8 : FnText Tryz.prog 145 [] 9 1 eb5 [(2, none)] := tX Tryz.call145 follows Tryz.func145 rfl rfl (by decide) (by kernel_rfl) (by kernel_rfl)

def dg8 : AC := rdc (cO Tryz.prog [] 13 Tryz.f147) _ (by conv => lhs; reduce)
def ca9 : AC := rdc (lP 0 dg8) _ (by conv => lhs; reduce)
theorem cv5 : FnText Tryz.prog 147 [] 13 1 dg8 [(2, none)] := tX Tryz.call147 follows Tryz.func147 rfl rfl (by decide) (by kernel_rfl) (by kernel_rfl)

def dz5 : AC := rdc (cO Tryz.prog [] 14 Tryz.f122) _ (by conv => lhs; reduce)
theorem da6 : FnText Tryz.prog 122 [] 14 2 dz5 [(4, none)] := tX Tryz.call122 follows Tryz.func122 rfl rfl (by decide) (by kernel_rfl) (by kernel_rfl)

def ed8 : AC := rdc (cO Tryz.prog [] 49 Tryz.f94) _ (by conv => lhs; reduce)
def cs0 : AC := rdc (lP 0 ed8) _ (by conv => lhs; reduce)
theorem du9 : FnText Tryz.prog 94 [] 49 2 ed8 [(4, none)] := tX Tryz.call94 follows Tryz.func94 rfl rfl (by decide) (by kernel_rfl) (by kernel_rfl)

def eh0 : AC := rdc (cO Tryz.prog [] 53 Tryz.f90) _ (by conv => lhs; reduce)
def cx0 : AC := rdc (lP 0 eh0) _ (by conv => lhs; reduce)
theorem du5 : FnText Tryz.prog 90 [] 53 2 eh0 [(4, none)] := tX Tryz.call90 follows Tryz.func90 rfl rfl (by decide) (by kernel_rfl) (by kernel_rfl)

def em7 : AC := rdc (cO Tryz.prog [6] 64 Tryz.f47) _ (by conv => lhs; reduce)
theorem do6 : FnText Tryz.prog 47 [6] 64 2 em7 [(4, none), (5, none)] := tX Tryz.call47 follows Tryz.func47 rfl rfl (by decide) (by kernel_rfl) (by kernel_rfl)

def eo1 : AC := rdc (cO Tryz.prog [] 15 Tryz.f61) _ (by conv => lhs; reduce)
theorem dm3 : FnText Tryz.prog 61 [] 15 2 eo1 [(4, none)] := tX Tryz.call61 follows Tryz.func61 rfl rfl (by decide) (by kernel_rfl) (by kernel_rfl)

def eb7 : AC := rdc (cO Tryz.prog [] 38 Tryz.f24) _ (by conv => lhs; reduce)
def dc3 : AC := rdc (lP 0 eb7) _ (by conv => lhs; reduce)
theorem dn9 : FnText Tryz.prog 24 [] 38 2 eb7 [(4, none)] := tX Tryz.call24 follows Tryz.func24 rfl rfl (by decide) (by kernel_rfl) (by kernel_rfl)

def dy4 : AC := rdc (cO Tryz.prog [] 24 Tryz.f25) _ (by conv => lhs; reduce)
def cq0 : AC := rdc (lP 0 dy4) _ (by conv => lhs; reduce)
theorem ds3 : FnText Tryz.prog 25 [] 24 2 dy4 [(4, none)] := tX Tryz.call25 follows Tryz.func25 rfl rfl (by decide) (by kernel_rfl) (by kernel_rfl)

def ee5 : AC := rdc (cO Tryz.prog [] 20 Tryz.f146) _ (by conv => lhs; reduce)
theorem el6 : FnText Tryz.prog 146 [] 20 2 ee5 [(4, none)] := tX Tryz.call146 follows Tryz.func146 rfl rfl (by decide) (by kernel_rfl) (by kernel_rfl)

def di8 : AC := rdc (cO Tryz.prog [] 22 Tryz.f121) _ (by conv => lhs; reduce)
def dz7 : AC := rdc (lP 0 di8) _ (by conv => lhs; reduce)
theorem em0 : FnText Tryz.prog 121 [] 22 2 di8 [(4, none), (5, none)] := tX Tryz.call121 follows Tryz.func121 rfl rfl (by decide) (by kernel_rfl) (by kernel_rfl)

def dy1 : AC := rdc (cO Tryz.prog [] 10 Tryz.f123) _ (by conv => lhs; reduce)
theorem el4 : FnText Tryz.prog 123 [] 10 1 dy1 [(2, none)] := tX Tryz.call123 follows Tryz.func123 rfl rfl (by decide) (by kernel_rfl) (by kernel_rfl)

def eq2 : AC := rdc (cO Tryz.prog [] 56 Tryz.f91) _ (by conv => lhs; reduce)
theorem eq9 : FnText Tryz.prog 91 [] 56 3 eq2 [(6, none)] := tX Tryz.call91 follows Tryz.func91 rfl rfl (by decide) (by kernel_rfl) (by kernel_rfl)

def ea6 : AC := rdc (cO Tryz.prog [] 35 Tryz.f92) _ (by conv => lhs; reduce)
def el3 : AC := rdc (lP 0 ea6) _ (by conv => lhs; reduce)
theorem er4 : FnText Tryz.prog 92 [] 35 2 ea6 [(4, none)] := tX Tryz.call92 follows Tryz.func92 rfl rfl (by decide) (by kernel_rfl) (by kernel_rfl)

def eq0 : AC := rdc (cO Tryz.prog [] 21 Tryz.f93) _ (by conv => lhs; reduce)
theorem eo9 : FnText Tryz.prog 93 [] 21 3 eq0 [(6, none)] := tX Tryz.call93 follows Tryz.func93 rfl rfl (by decide) (by kernel_rfl) (by kernel_rfl)

def dx9 : AC := rdc (cO Tryz.prog [] 89 Tryz.f48) _ (by conv => lhs; reduce)
def em2 : AC := rdc (lP 0 dx9) _ (by conv => lhs; reduce)
theorem en2 : FnText Tryz.prog 48 [] 89 3 dx9 [(6, none)] := tX Tryz.call48 follows Tryz.func48 rfl rfl (by decide) (by kernel_rfl) (by kernel_rfl)

def dy3 : AC := rdc (cO Tryz.prog [] 38 Tryz.f49) _ (by conv => lhs; reduce)
def em1 : AC := rdc (lP 0 dy3) _ (by conv => lhs; reduce)
theorem eq3 : FnText Tryz.prog 49 [] 38 2 dy3 [(4, none)] := tX Tryz.call49 follows Tryz.func49 rfl rfl (by decide) (by kernel_rfl) (by kernel_rfl)

def dt0 : AC := rdc (cO Tryz.prog [] 66 Tryz.f16) _ (by conv => lhs; reduce)
def el9 : AC := rdc (lP 0 dt0) _ (by conv => lhs; reduce)
def el1 : AC := rdc (lP 1 dt0) _ (by conv => lhs; reduce)
theorem er5 : FnText Tryz.prog 16 [] 66 3 dt0 [(6, none)] := tX Tryz.call16 follows Tryz.func16 rfl rfl (by decide) (by kernel_rfl) (by kernel_rfl)

def dt1 : AC := rdc (cO Tryz.prog [4, 7] 21 Tryz.f31) _ (by conv => lhs; reduce)
def de1 : AC := rdc (lP 0 dt1) _ (by conv => lhs; reduce)
theorem ce3 : FnText Tryz.prog 31 [4, 7] 21 2 dt1 [(4, some (5, true)), (5, none)] := tX Tryz.call31 follows Tryz.func31 rfl rfl (by decide) (by kernel_rfl) (by kernel_rfl)

def dh8 : AC := rdc (cO Tryz.prog [] 17 Tryz.f107) _ (by conv => lhs; reduce)
def ch8 : AC := rdc (lP 0 dh8) _ (by conv => lhs; reduce)
theorem bl5 : FnText Tryz.prog 107 [] 17 1 dh8 [(2, none)] := tX Tryz.call107 follows Tryz.func107 rfl rfl (by decide) (by kernel_rfl) (by kernel_rfl)

def ed1 : AC := rdc (cO Tryz.prog [8] 46 Tryz.f68) _ (by conv => lhs; reduce)
def cw5 : AC := rdc (lP 0 ed1) _ (by conv => lhs; reduce)
theorem ce8 : FnText Tryz.prog 68 [8] 46 3 ed1 [(6, none)] := tX Tryz.call68 follows Tryz.func68 rfl rfl (by decide) (by kernel_rfl) (by kernel_rfl)

def en3 : AC := rdc (cO Tryz.prog [] 46 Tryz.f34) _ (by conv => lhs; reduce)
theorem ch2 : FnText Tryz.prog 34 [] 46 4 en3 [(8, none)] := tX Tryz.call34 follows Tryz.func34 rfl rfl (by decide) (by kernel_rfl) (by kernel_rfl)

def ea1 : AC := rdc (cO Tryz.prog [] 17 Tryz.f109) _ (by conv => lhs; reduce)
theorem bm1 : FnText Tryz.prog 109 [] 17 1 ea1 [(2, none)] := tX Tryz.call109 follows Tryz.func109 rfl rfl (by decide) (by kernel_rfl) (by kernel_rfl)

def dh5 : AC := rdc (cO Tryz.prog [] 20 Tryz.f110) _ (by conv => lhs; reduce)
def bz2 : AC := rdc (lP 0 dh5) _ (by conv => lhs; reduce)
theorem bj3 : FnText Tryz.prog 110 [] 20 2 dh5 [(4, none)] := tX Tryz.call110 follows Tryz.func110 rfl rfl (by decide) (by kernel_rfl) (by kernel_rfl)

def ee7 : AC := rdc (cO Tryz.prog [] 9 Tryz.f112) _ (by conv => lhs; reduce)
theorem bn9 : FnText Tryz.prog 112 [] 9 1 ee7 [(2, none)] := tX Tryz.call112 follows Tryz.func112 rfl rfl (by decide) (by kernel_rfl) (by kernel_rfl)

def eg8 : AC := rdc (cO Tryz.prog [] 13 Tryz.f111) _ (by conv => lhs; reduce)
theorem bq1 : FnText Tryz.prog 111 [] 13 1 eg8 [(2, none)] := tX Tryz.call111 follows Tryz.func111 rfl rfl (by decide) (by kernel_rfl) (by kernel_rfl)

def eo5 : AC := rdc (cO Tryz.prog [] 22 Tryz.f73) _ (by conv => lhs; reduce)
theorem cg1 : FnText Tryz.prog 73 [] 22 1 eo5 [(2, none)] := tX Tryz.call73 follows Tryz.func73 rfl rfl (by decide) (by kernel_rfl) (by kernel_rfl)

def ek9 : AC := rdc (cO Tryz.prog [4] 19 Tryz.f144) _ (by conv => lhs; reduce)
theorem bn3 : FnText Tryz.prog 144 [4] 19 2 ek9 [(4, some (2, true))] := tX Tryz.call144 follows Tryz.func144 rfl rfl (by decide) (by kernel_rfl) (by kernel_rfl)

def ek6 : AC := rdc (cO Tryz.prog [] 14 Tryz.f115) _ (by conv => lhs; reduce)
theorem bk4 : FnText Tryz.prog 115 [] 14 2 ek6 [(4, none)] := tX Tryz.call115 follows Tryz.func115 rfl rfl (by decide) (by kernel_rfl) (by kernel_rfl)

def ef6 : AC := rdc (cO Tryz.prog [4] 19 Tryz.f114) _ (by conv => lhs; reduce)
theorem bk5 : FnText Tryz.prog 114 [4] 19 2 ef6 [(4, some (2, true))] := tX Tryz.call114 follows Tryz.func114 rfl rfl (by decide) (by kernel_rfl) (by kernel_rfl)

def di5 : AC := rdc (cO Tryz.prog [] 18 Tryz.f116) _ (by conv => lhs; reduce)
def cb4 : AC := rdc (lP 0 di5) _ (by conv => lhs; reduce)
theorem bm5 : FnText Tryz.prog 116 [] 18 1 di5 [(2, none)] := tX Tryz.call116 follows Tryz.func116 rfl rfl (by decide) (by kernel_rfl) (by kernel_rfl)

def ea0 : AC := rdc (cO Tryz.prog [] 10 Tryz.f113) _ (by conv => lhs; reduce)
theorem bl4 : FnText Tryz.prog 113 [] 10 1 ea0 [(2, none)] := tX Tryz.call113 follows Tryz.func113 rfl rfl (by decide) (by kernel_rfl) (by kernel_rfl)

def eq7 : AC := rdc (cO Tryz.prog [] 18 Tryz.f81) _ (by conv => lhs; reduce)
theorem ck1 : FnText Tryz.prog 81 [] 18 2 eq7 [(4, none)] := tX Tryz.call81 follows Tryz.func81 rfl rfl (by decide) (by kernel_rfl) (by kernel_rfl)

def eb4 : AC := rdc (cO Tryz.prog [9] 44 Tryz.f74) _ (by conv => lhs; reduce)
def cx3 : AC := rdc (lP 0 eb4) _ (by conv => lhs; reduce)
theorem cn5 : FnText Tryz.prog 74 [9] 44 2 eb4 [(4, none), (5, none)] := tX Tryz.call74 follows Tryz.func74 rfl rfl (by decide) (by kernel_rfl) (by kernel_rfl)

def eo8 : AC := rdc (cO Tryz.prog [] 14 Tryz.f95) _ (by conv => lhs; reduce)
theorem ck0 : FnText Tryz.prog 95 [] 14 2 eo8 [(4, none)] := tX Tryz.call95 follows Tryz.func95 rfl rfl (by decide) (by kernel_rfl) (by kernel_rfl)

def dx6 : AC := rdc (cO Tryz.prog [] 49 Tryz.f78) _ (by conv => lhs; reduce)
def cu5 : AC := rdc (lP 0 dx6) _ (by conv => lhs; reduce)
theorem ca3 : FnText Tryz.prog 78 [] 49 2 dx6 [(4, none)] := tX Tryz.call78 follows Tryz.func78 rfl rfl (by decide) (by kernel_rfl) (by kernel_rfl)

def eh8 : AC := rdc (cO Tryz.prog [] 41 Tryz.f75) _ (by conv => lhs; reduce)
def cp4 : AC := rdc (lP 0 eh8) _ (by conv => lhs; reduce)
theorem by2 : FnText Tryz.prog 75 [] 41 2 eh8 [(4, none)] := tX Tryz.call75 follows Tryz.func75 rfl rfl (by decide) (by kernel_rfl) (by kernel_rfl)

def eo0 : AC := rdc (cO Tryz.prog [6] 62 Tryz.f39) _ (by conv => lhs; reduce)
theorem cm0 : FnText Tryz.prog 39 [6] 62 2 eo0 [(4, none), (5, none)] := tX Tryz.call39 follows Tryz.func39 rfl rfl (by decide) (by kernel_rfl) (by kernel_rfl)

def ep7 : AC := rdc (cO Tryz.prog [] 15 Tryz.f80) _ (by conv => lhs; reduce)
theorem ci4 : FnText Tryz.prog 80 [] 15 2 ep7 [(4, none)] := tX Tryz.call80 follows Tryz.func80 rfl rfl (by decide) (by kernel_rfl) (by kernel_rfl)

def ea8 : AC := rdc (cO Tryz.prog [7] 32 Tryz.f45) _ (by conv => lhs; reduce)
def de9 : AC := rdc (lP 0 ea8) _ (by conv => lhs; reduce)
theorem bv9 : FnText Tryz.prog 45 [7] 32 2 ea8 [(4, none)] := tX Tryz.call45 follows Tryz.func45 rfl rfl (by decide) (by kernel_rfl) (by kernel_rfl)

def ek4 : AC := rdc (cO Tryz.prog [] 19 Tryz.f117) _ (by conv => lhs; reduce)
theorem bo4 : FnText Tryz.prog 117 [] 19 2 ek4 [(4, none)] := tX Tryz.call117 follows Tryz.func117 rfl rfl (by decide) (by kernel_rfl) (by kernel_rfl)

def eh1 : AC := rdc (cO Tryz.prog [] 23 Tryz.f86) _ (by conv => lhs; reduce)
def cv8 : AC := rdc (lP 0 eh1) _ (by conv => lhs; reduce)
theorem ca5 : FnText Tryz.prog 86 [] 23 2 eh1 [(4, none), (5, none)] := tX Tryz.call86 follows Tryz.func86 rfl rfl (by decide) (by kernel_rfl) (by kernel_rfl)

def en4 : AC := rdc (cO Tryz.prog [] 50 Tryz.f76) _ (by conv => lhs; reduce)
theorem ci7 : FnText Tryz.prog 76 [] 50 3 en4 [(6, none)] := tX Tryz.call76 follows Tryz.func76 rfl rfl (by decide) (by kernel_rfl) (by kernel_rfl)

def eb8 : AC := rdc (cO Tryz.prog [7] 33 Tryz.f44) _ (by conv => lhs; reduce)
def dd5 : AC := rdc (lP 0 eb8) _ (by conv => lhs; reduce)
theorem bw9 : FnText Tryz.prog 44 [7] 33 2 eb8 [(4, none)] := tX Tryz.call44 follows Tryz.func44 rfl rfl (by decide) (by kernel_rfl) (by kernel_rfl)

def el0 : AC := rdc (cO Tryz.prog [] 28 Tryz.f77) _ (by conv => lhs; reduce)
def cq2 : AC := rdc (lP 0 el0) _ (by conv => lhs; reduce)
theorem cl2 : FnText Tryz.prog 77 [] 28 3 el0 [(6, none)] := tX Tryz.call77 follows Tryz.func77 rfl rfl (by decide) (by kernel_rfl) (by kernel_rfl)

def ei5 : AC := rdc (cO Tryz.prog [12] 92 Tryz.f40) _ (by conv => lhs; reduce)
def db4 : AC := rdc (lP 0 ei5) _ (by conv => lhs; reduce)
theorem ci2 : FnText Tryz.prog 40 [12] 92 3 ei5 [(6, none)] := tX Tryz.call40 follows Tryz.func40 rfl rfl (by decide) (by kernel_rfl) (by kernel_rfl)

def ei3 : AC := rdc (cO Tryz.prog [6] 37 Tryz.f42) _ (by conv => lhs; reduce)
def cq8 : AC := rdc (lP 0 ei3) _ (by conv => lhs; reduce)
theorem cp2 : FnText Tryz.prog 42 [6] 37 2 ei3 [(4, none)] := tX Tryz.call42 follows Tryz.func42 rfl rfl (by decide) (by kernel_rfl) (by kernel_rfl)

def ei8 : AC := rdc (cO Tryz.prog [] 21 Tryz.f53) _ (by conv => lhs; reduce)
def db8 : AC := rdc (lP 0 ei8) _ (by conv => lhs; reduce)
theorem ce7 : FnText Tryz.prog 53 [] 21 2 ei8 [(4, none)] := tX Tryz.call53 follows Tryz.func53 rfl rfl (by decide) (by kernel_rfl) (by kernel_rfl)

def ei7 : AC := rdc (cO Tryz.prog [4, 5, 7] 42 Tryz.f54) _ (by conv => lhs; reduce)
def df6 : AC := rdc (lP 0 ei7) _ (by conv => lhs; reduce)
theorem cm1 : FnText Tryz.prog 54 [4, 5, 7] 42 2 ei7 [(4, some (2, true))] := tX Tryz.call54 follows Tryz.func54 rfl rfl (by decide) (by kernel_rfl) (by kernel_rfl)

def ej0 : AC := rdc (cO Tryz.prog [] 22 Tryz.f157) _ (by conv => lhs; reduce)
theorem bl6 : FnText Tryz.prog 157 [] 22 2 ej0 [(4, none)] := tX Tryz.call157 follows Tryz.func157 rfl rfl (by decide) (by kernel_rfl) (by kernel_rfl)

def dh4 : AC := rdc (cO Tryz.prog [6] 39 Tryz.f148) _ (by conv => lhs; reduce)
def cd9 : AC := rdc (lP 0 dh4) _ (by conv => lhs; reduce)
theorem bp0 : FnText Tryz.prog 148 [6] 39 2 dh4 [(4, none)] := tX Tryz.call148 follows Tryz.func148 rfl rfl (by decide) (by kernel_rfl) (by kernel_rfl)

def di7 : AC := rdc (cO Tryz.prog [5] 30 Tryz.f124) _ (by conv => lhs; reduce)
def cl3 : AC := rdc (lP 0 di7) _ (by conv => lhs; reduce)
theorem bk6 : FnText Tryz.prog 124 [5] 30 1 di7 [(2, none)] := tX Tryz.call124 follows Tryz.func124 rfl rfl (by decide) (by kernel_rfl) (by kernel_rfl)

def ef8 : AC := rdc (cO Tryz.prog [] 10 Tryz.f99) _ (by conv => lhs; reduce)
theorem cl1 : FnText Tryz.prog 99 [] 10 1 ef8 [(2, none), (3, none)] := tX Tryz.call99 follows Tryz.func99 rfl rfl (by decide) (by kernel_rfl) (by kernel_rfl)

def di6 : AC := rdc (cO Tryz.prog [8] 34 Tryz.f100) _ (by conv => lhs; reduce)
def cj6 : AC := rdc (lP 0 di6) _ (by conv => lhs; reduce)
theorem br0 : FnText Tryz.prog 100 [8] 34 2 di6 [(4, none)] := tX Tryz.call100 follows Tryz.func100 rfl rfl (by decide) (by kernel_rfl) (by kernel_rfl)

def ej2 : AC := rdc (cO Tryz.prog [] 9 Tryz.f125) _ (by conv => lhs; reduce)
theorem bl2 : FnText Tryz.prog 125 [] 9 1 ej2 [(2, none)] := tX Tryz.call125 follows Tryz.func125 rfl rfl (by decide) (by kernel_rfl) (by kernel_rfl)

def eg3 : AC := rdc (cO Tryz.prog [] 6 Tryz.f126) _ (by conv => lhs; reduce)
theorem bi9 : FnText Tryz.prog 126 [] 6 1 eg3 [(2, none)] := tX Tryz.call126 follows Tryz.func126 rfl rfl (by decide) (by kernel_rfl) (by kernel_rfl)

def ee1 : AC := rdc (cO Tryz.prog [2] 11 Tryz.f127) _ (by conv => lhs; reduce)
theorem bi6 : FnText Tryz.prog 127 [2] 11 1 ee1 [(2, some (2, true))] := tX Tryz.call127 follows Tryz.func127 rfl rfl (by decide) (by kernel_rfl) (by kernel_rfl)

def dj1 : AC := rdc (cO Tryz.prog [4] 36 Tryz.f128) _ (by conv => lhs; reduce)
theorem bq3 : FnText Tryz.prog 128 [4] 36 2 dj1 [(4, some (2, true)), (5, none)] := tX Tryz.call128 follows Tryz.func128 rfl rfl (by decide) (by kernel_rfl) (by kernel_rfl)

def dx7 : AC := rdc (cO Tryz.prog [] 25 Tryz.f129) _ (by conv => lhs; reduce)
theorem bp9 : FnText Tryz.prog 129 [] 25 1 dx7 [(2, none)] := tX Tryz.call129 follows Tryz.func129 rfl rfl (by decide) (by kernel_rfl) (by kernel_rfl)

def dh7 : AC := rdc (cO Tryz.prog [3, 4, 7, 9, 11] 89 Tryz.f101) _ (by conv => lhs; reduce)
def ay6 : AC := rdc (lP 0 dh7) _ (by conv => lhs; reduce)
theorem bq5 : FnText Tryz.prog 101 [3, 4, 7, 9, 11] 89 3 dh7 [(6, none)] := tX Tryz.call101 follows Tryz.func101 rfl rfl (by decide) (by kernel_rfl) (by kernel_rfl)

def dq3 : AC := rdc (cO Tryz.prog [11, 14, 15] 67 Tryz.f55) _ (by conv => lhs; reduce)
def de6 : AC := rdc (lP 0 dq3) _ (by conv => lhs; reduce)
def ct9 : AC := rdc (lP 1 dq3) _ (by conv => lhs; reduce)
theorem cl8 : FnText Tryz.prog 55 [11, 14, 15] 67 3 dq3 [(6, none), (7, none)] := tX Tryz.call55 follows Tryz.func55 rfl rfl (by decide) (by kernel_rfl) (by kernel_rfl)

def ec6 : AC := rdc (cO Tryz.prog [] 19 Tryz.f82) _ (by conv => lhs; reduce)
def cw4 : AC := rdc (lP 0 ec6) _ (by conv => lhs; reduce)
theorem bz3 : FnText Tryz.prog 82 [] 19 2 ec6 [(4, none)] := tX Tryz.call82 follows Tryz.func82 rfl rfl (by decide) (by kernel_rfl) (by kernel_rfl)

def ed7 : AC := rdc (cO Tryz.prog [5] 20 Tryz.f84) _ (by conv => lhs; reduce)
def ct7 : AC := rdc (lP 0 ed7) _ (by conv => lhs; reduce)
theorem cm2 : FnText Tryz.prog 84 [5] 20 1 ed7 [(2, none)] := tX Tryz.call84 follows Tryz.func84 rfl rfl (by decide) (by kernel_rfl) (by kernel_rfl)

def dv2 : AC := rdc (cO Tryz.prog [14, 17] 89 Tryz.f19) _ (by conv => lhs; reduce)
def cy7 : AC := rdc (lP 0 dv2) _ (by conv => lhs; reduce)
def cp6 : AC := rdc (lP 1 dv2) _ (by conv => lhs; reduce)
theorem cc3 : FnText Tryz.prog 19 [14, 17] 89 3 dv2 [(6, none), (7, none)] := tX Tryz.call19 follows Tryz.func19 rfl rfl (by decide) (by kernel_rfl) (by kernel_rfl)

def dz8 : AC := rdc (cO Tryz.prog [6] 33 Tryz.f30) _ (by conv => lhs; reduce)
def cs6 : AC := rdc (lP 0 dz8) _ (by conv => lhs; reduce)
theorem cn0 : FnText Tryz.prog 30 [6] 33 2 dz8 [(4, none)] := tX Tryz.call30 follows Tryz.func30 rfl rfl (by decide) (by kernel_rfl) (by kernel_rfl)

def em4 : AC := rdc (cO Tryz.prog [8, 10, 11] 33 Tryz.f12) _ (by conv => lhs; reduce)
theorem co1 : FnText Tryz.prog 12 [8, 10, 11] 33 4 em4 [(8, some (5, true)), (9, none)] := tX Tryz.call12 follows Tryz.func12 rfl rfl (by decide) (by kernel_rfl) (by kernel_rfl)

def ec5 : AC := rdc (cO Tryz.prog [] 18 Tryz.f23) _ (by conv => lhs; reduce)
def db1 : AC := rdc (lP 0 ec5) _ (by conv => lhs; reduce)
theorem dw4 : FnText Tryz.prog 23 [] 18 2 ec5 [(4, none)] := tX Tryz.call23 follows Tryz.func23 rfl rfl (by decide) (by kernel_rfl) (by kernel_rfl)

def ac8 : AC := rdc (cO Tryz.prog [10] 127 Tryz.f8) _ (by conv => lhs; reduce)
def dl4 : AC := rdc (lP 0 ac8) _ (by conv => lhs; reduce)
def dk2 : AC := rdc (lP 1 ac8) _ (by conv => lhs; reduce)
theorem ed4 : FnText Tryz.prog 8 [10] 127 1 ac8 [(2, none)] := tX Tryz.call8 follows Tryz.func8 rfl rfl (by decide) (by kernel_rfl) (by kernel_rfl)

def dw8 : AC := rdc (cO Tryz.prog [12, 14, 76, 18] 98 Tryz.f15) _ (by conv => lhs; reduce)
def cx2 : AC := rdc (lP 0 dw8) _ (by conv => lhs; reduce)
def dd8 : AC := rdc (lP 1 dw8) _ (by conv => lhs; reduce)
theorem cn2 : FnText Tryz.prog 15 [12, 14, 76, 18] 98 3 dw8 [(6, none), (7, none)] := tX Tryz.call15 follows Tryz.func15 rfl rfl (by decide) (by kernel_rfl) (by kernel_rfl)

def cs5 : List AOper :=
 [⟨(some 16), .move (t_ 0), (some (15, false)), false⟩,
 ⟨(some 17), .nilCheck (t_ 16), (some (15, false)), false⟩,
 ⟨(some 18), .faddr 14 1 false (t_ 17), (some (15, false)), false⟩,
 ⟨(some 19), .load 1 false (t_ 18), (some (15, false)), false⟩,
 ⟨(some 20), .bin .eql 66 (t_ 19) (.const (.map none)), (some (15, false)), false⟩,
 (q_ 21 (.pick (t_ 15) (.const (.bool true)) (t_ 20)))]
def cs8 : List AOper :=
 [⟨(some 41), .move (t_ 1), (some (40, false)), false⟩,
 ⟨(some 42), .bi .len [33].toArray 3 [(t_ 41)], (some (40, false)), false⟩,
 ⟨(some 43), .move (t_ 6), (some (40, false)), false⟩,
 ⟨(some 44), .bi .len [85].toArray 3 [(t_ 43)], (some (40, false)), false⟩,
 ⟨(some 45), .bin .neq 3 (t_ 42) (t_ 44), (some (40, false)), false⟩,
 (q_ 46 (.pick (t_ 40) (.const (.bool true)) (t_ 45)))]
def cq3 : List AOper :=
 [⟨(some 48), .move (t_ 0), (some (47, false)), false⟩,
 ⟨(some 49), .move (t_ 1), (some (47, false)), false⟩,
 ⟨(some 50), .call (.func 50) [(t_ 48), (t_ 49)], (some (47, false)), false⟩,
 ⟨(some 51), .un .not (t_ 50), (some (47, false)), false⟩,
 (q_ 52 (.pick (t_ 47) (.const (.bool true)) (t_ 51)))]
/-- (*patchbay/lookup.Index).Find -/
def em6 : AC :=
 .seq (r_ [(q_ 4 (.alloc true 44 (.agg [(.int .i64 0), (.slice none 0 0), (.int .i64 0), (.int .i64 0), (.slice none 0 0)].toArray))),
 (q_ 5 (.move (.const (.bool false))))])
 (.seq (.seq (r_ (m_ 13 0 :: (q_ 14 (.bin .eql 49 (t_ 13) (.const (.pointer none)))) :: m_ 15 14 :: (cs5 ++ [])))
 (.cond (t_ 21)
 (.seq (r_ [q_ 22 (.build [(.int .i64 0), (.slice none 0 0), (.int .i64 0), (.int .i64 0), (.slice none 0 0)] []),
 ⟨none, .store 5 (t_ 4) (t_ 22), none, false⟩,
 (q_ 5 (.move (.const (.bool false))))])
 (.ret))
 (.skip)))
 (.seq (.region true [m_ 23 0,
 q_ 24 (.nilCheck (t_ 23)),
 q_ 25 (.faddr 0 9 true (t_ 24)),
 f_ 26 5 25,
 l_ 27 26,
 m_ 28 0,
 q_ 29 (.nilCheck (t_ 28)),
 f_ 30 9 29,
 l_ 31 30,
 q_ 32 (.iaddr 6 (t_ 27) (t_ 31)),
 f_ 33 1 32,
 l_ 34 33,
 m_ 6 34])
 (.seq (.seq (r_ (m_ 35 0 :: (q_ 36 (.nilCheck (t_ 35))) :: f_ 37 10 36 :: l_ 38 37 :: (q_ 39 (.bin .eql 3 (t_ 38) (k_ 3))) :: m_ 40 39 :: (cs8 ++ (m_ 47 46 :: (cq3 ++ [])))))
 (.cond (t_ 52)
 (.seq (.regionU [m_ 53 0,
 q_ 54 (.nilCheck (t_ 53)),
 q_ 55 (.faddr 0 9 true (t_ 54)),
 q_ 56 (.load 9 true (t_ 55)),
 m_ 57 0,
 q_ 58 (.nilCheck (t_ 57)),
 f_ 59 9 58,
 l_ 60 59,
 m_ 61 0,
 q_ 62 (.nilCheck (t_ 61)),
 f_ 63 12 62,
 l_ 64 63,
 m_ 65 1,
 q_ 66 (.call (.func 12) [(t_ 56), (t_ 60), (t_ 64), (t_ 65)]),
 q_ 67 (.extract (t_ 66) 0),
 q_ 68 (.extract (t_ 66) 1),
 ⟨none, .store 5 (t_ 4) (t_ 67), none, false⟩,
 m_ 5 68])
 (.ret))
 (.skip)))
 (.seq (r_ [m_ 69 1,
 m_ 70 0,
 q_ 71 (.nilCheck (t_ 70)),
 f_ 72 13 71,
 l_ 73 72,
 q_ 74 (.call (.func 51) [(t_ 69), (t_ 73)]),
 (q_ 7 (.alloc true 90 (.agg [(.int .i64 0), (.int .u32 0), (.int .u32 0), (.int .u32 0), (.int .u32 0), (.int .u32 0), (.int .u32 0)].toArray))),
 ⟨none, .store 7 (t_ 7) (t_ 74), none, false⟩])
 (.seq (.seq (r_ [m_ 75 0,
 q_ 76 (.nilCheck (t_ 75)),
 f_ 77 13 76,
 l_ 78 77,
 q_ 79 (.bin .lss 3 (t_ 78) (k_ 0))])
 (.cond (t_ 79)
 (.seq (.region true [m_ 81 0,
 q_ 82 (.nilCheck (t_ 81)),
 f_ 83 14 82,
 l_ 84 83,
 q_ 85 (.load 7 true (t_ 7)),
 q_ 86 (.lookupW 66 90 3 [.i64, .u32, .u32, .u32, .u32, .u32, .u32] (.int .i64 0) true (t_ 84) (t_ 85)),
 m_ 80 86,
 q_ 87 (.extract (t_ 80) 0),
 q_ 88 (.extract (t_ 80) 1),
 m_ 8 87,
 m_ 9 88])
 (.seq (.seq (r_ [m_ 89 9,
 q_ 90 (.un .not (t_ 89))])
 (.cond (t_ 90)
 (.seq (r_ [q_ 91 (.build [(.int .i64 0), (.slice none 0 0), (.int .i64 0), (.int .i64 0), (.slice none 0 0)] []),
 ⟨none, .store 5 (t_ 4) (t_ 91), none, false⟩,
 (q_ 5 (.move (.const (.bool false))))])
 (.ret))
 (.skip)))
 (.seq (r_ [m_ 92 0,
 q_ 93 (.nilCheck (t_ 92)),
 f_ 94 12 93,
 l_ 95 94,
 m_ 96 8,
 q_ 97 (.iaddr 5 (t_ 95) (t_ 96)),
 q_ 98 (.load 5 true (t_ 97)),
 q_ 99 (.call (.func 35) [(t_ 98)]),
 ⟨none, .store 5 (t_ 4) (t_ 99), none, false⟩,
 (q_ 5 (.move (.const (.bool true))))])
 (.ret))))
 (.skip)))
 (.seq (.seq (.region true [m_ 100 0,
 q_ 101 (.nilCheck (t_ 100)),
 f_ 102 15 101,
 l_ 103 102,
 q_ 104 (.load 7 true (t_ 7)),
 q_ 105 (.lookupW 67 90 93 [.i64, .u32, .u32, .u32, .u32, .u32, .u32] (.pointer none) false (t_ 103) (t_ 104)),
 (q_ 106 (.bin .eql 93 (t_ 105) (.const (.pointer none))))])
 (.cond (t_ 106)
 (.seq (r_ [q_ 107 (.build [(.int .i64 0), (.slice none 0 0), (.int .i64 0), (.int .i64 0), (.slice none 0 0)] []),
 ⟨none, .store 5 (t_ 4) (t_ 107), none, false⟩,
 (q_ 5 (.move (.const (.bool false))))])
 (.ret))
 (.skip)))
 (.seq (.regionU [m_ 109 0,
 q_ 110 (.nilCheck (t_ 109)),
 f_ 111 15 110,
 l_ 112 111,
 q_ 113 (.load 7 true (t_ 7)),
 q_ 114 (.lookupW 67 90 93 [.i64, .u32, .u32, .u32, .u32, .u32, .u32] (.pointer none) false (t_ 112) (t_ 113)),
 ⟨(some 115), .move (t_ 1), none, true⟩,
 ⟨(some 116), .move (t_ 0), none, true⟩,
 ⟨(some 117), .nilCheck (t_ 116), none, true⟩,
 ⟨(some 118), .faddr 13 1 false (t_ 117), none, true⟩,
 ⟨(some 119), .load 1 false (t_ 118), none, true⟩,
 ⟨(some 120), .iaddr 1 (t_ 115) (t_ 119), none, true⟩,
 ⟨(some 121), .load 1 false (t_ 120), none, true⟩,
 q_ 122 (.call (.func 52) [(t_ 114), (t_ 121)]),
 m_ 108 122,
 q_ 123 (.extract (t_ 108) 0),
 q_ 124 (.extract (t_ 108) 1),
 q_ 125 (.extract (t_ 108) 2),
 m_ 10 123,
 m_ 11 124,
 m_ 12 125])
 (.seq (.seq (r_ [m_ 126 12,
 q_ 127 (.un .not (t_ 126))])
 (.cond (t_ 127)
 (.seq (r_ [q_ 128 (.build [(.int .i64 0), (.slice none 0 0), (.int .i64 0), (.int .i64 0), (.slice none 0 0)] []),
 ⟨none, .store 5 (t_ 4) (t_ 128), none, false⟩,
 (q_ 5 (.move (.const (.bool false))))])
 (.ret))
 (.skip)))
 (.seq (r_ [m_ 129 0,
 q_ 130 (.nilCheck (t_ 129)),
 f_ 131 12 130,
 l_ 132 131,
 m_ 133 10,
 q_ 134 (.iaddr 5 (t_ 132) (t_ 133)),
 q_ 135 (.load 5 true (t_ 134)),
 q_ 136 (.call (.func 35) [(t_ 135)]),
 ⟨none, .store 5 (t_ 4) (t_ 136), none, false⟩,
 (q_ 5 (.move (.const (.bool true))))])
 (.ret))))))))))
theorem dk4 : FnText Tryz.prog 17 [4, 7, 1000001] 137 2 em6 [(4, some (5, true)), (5, none)] :=
 ⟨Tryz.call17, follows, Tryz.f17, _, Tryz.func17, rfl, rfl, by decide, by kernel_rfl, by kernel_rfl⟩

def en6 : AC := rdc (cO Tryz.prog [] 10 Tryz.f18) _ (by conv => lhs; reduce)
theorem dm8 : FnText Tryz.prog 18 [] 10 1 en6 [(2, none)] := tX Tryz.call18 follows Tryz.func18 rfl rfl (by decide) (by kernel_rfl) (by kernel_rfl)

def ep5 : AC := rdc (cO Tryz.prog [] 8 Tryz.f29) _ (by conv => lhs; reduce)
theorem cd6 : FnText Tryz.prog 29 [] 8 2 ep5 [(3, none)] := tX Tryz.call29 follows Tryz.func29 rfl rfl (by decide) (by kernel_rfl) (by kernel_rfl)

def ep2 : AC := rdc (cO Tryz.prog [7] 21 Tryz.f32) _ (by conv => lhs; reduce)
theorem by4 : FnText Tryz.prog 32 [7] 21 5 ep2 [(6, none)] := tX Tryz.call32 follows Tryz.func32 rfl rfl (by decide) (by kernel_rfl) (by kernel_rfl)

def eq5 : AC := rdc (cO Tryz.prog [] 17 Tryz.f33) _ (by conv => lhs; reduce)
theorem cb6 : FnText Tryz.prog 33 [] 17 5 eq5 [(6, none)] := tX Tryz.call33 follows Tryz.func33 rfl rfl (by decide) (by kernel_rfl) (by kernel_rfl)

def ep0 : AC := rdc (cO Tryz.prog [1, 2] 18 Tryz.f35) _ (by conv => lhs; reduce)
theorem cd5 : FnText Tryz.prog 35 [1, 2] 18 1 ep0 [(2, some (5, true))] := tX Tryz.call35 follows Tryz.func35 rfl rfl (by decide) (by kernel_rfl) (by kernel_rfl)

def eo4 : AC := rdc (cO Tryz.prog [] 9 Tryz.f41) _ (by conv => lhs; reduce)
theorem ca0 : FnText Tryz.prog 41 [] 9 2 eo4 [(3, none)] := tX Tryz.call41 follows Tryz.func41 rfl rfl (by decide) (by kernel_rfl) (by kernel_rfl)

def eq1 : AC := rdc (cO Tryz.prog [4, 5] 23 Tryz.f43) _ (by conv => lhs; reduce)
theorem cg9 : FnText Tryz.prog 43 [4, 5] 23 2 eq1 [(4, some (9, true))] := tX Tryz.call43 follows Tryz.func43 rfl rfl (by decide) (by kernel_rfl) (by kernel_rfl)

def bl3 : AC :=
 .seq (r_ [q_ 38 (.bin .lss 3 (t_ 37) (t_ 36))])
 (.seq (.cond (t_ 38)
 (.skip)
 (.exit 0))
 (.seq (.block 1 (.seq (r_ [m_ 39 37,
 q_ 40 (.iaddr 5 (t_ 35) (t_ 37)),
 q_ 41 (.load 5 true (t_ 40)),
 (q_ 3 (.alloc true 44 (.agg [(.int .i64 0), (.slice none 0 0), (.int .i64 0), (.int .i64 0), (.slice none 0 0)].toArray))),
 m_ 2 39,
 ⟨none, .store 5 (t_ 3) (t_ 41), none, false⟩])
 (.seq (.region true [q_ 42 (.faddr 1 4 true (t_ 3)),
 q_ 43 (.load 4 true (t_ 42)),
 q_ 44 (.call (.func 84) [(t_ 43)]),
 m_ 45 0,
 q_ 46 (.nilCheck (t_ 45)),
 f_ 47 13 46,
 l_ 48 47,
 q_ 49 (.call (.func 51) [(t_ 44), (t_ 48)]),
 (q_ 4 (.alloc true 90 (.agg [(.int .i64 0), (.int .u32 0), (.int .u32 0), (.int .u32 0), (.int .u32 0), (.int .u32 0), (.int .u32 0)].toArray))),
 ⟨none, .store 7 (t_ 4) (t_ 49), none, false⟩])
 (.seq (.seq (r_ [m_ 50 0,
 q_ 51 (.nilCheck (t_ 50)),
 f_ 52 13 51,
 l_ 53 52,
 q_ 54 (.bin .lss 3 (t_ 53) (k_ 0))])
 (.cond (t_ 54)
 (.seq (.region true [m_ 55 0,
 q_ 56 (.nilCheck (t_ 55)),
 f_ 57 14 56,
 l_ 58 57,
 q_ 59 (.load 7 true (t_ 4)),
 m_ 60 2,
 ⟨none, .mapUpdW 66 90 [.i64, .u32, .u32, .u32, .u32, .u32, .u32] (t_ 58) (t_ 59) (t_ 60), none, false⟩])
 (.exit 1))
 (.skip)))
 (.seq (.region true [m_ 61 0,
 q_ 62 (.nilCheck (t_ 61)),
 f_ 63 11 62,
 l_ 64 63,
 m_ 65 0,
 q_ 66 (.nilCheck (t_ 65)),
 f_ 67 13 66,
 l_ 68 67,
 q_ 69 (.iaddr 1 (t_ 64) (t_ 68)),
 l_ 70 69,
 m_ 5 70])
 (.seq (.seq (.region true [m_ 71 0,
 q_ 72 (.nilCheck (t_ 71)),
 f_ 73 15 72,
 l_ 74 73,
 q_ 75 (.load 7 true (t_ 4)),
 q_ 76 (.lookupW 67 90 93 [.i64, .u32, .u32, .u32, .u32, .u32, .u32] (.pointer none) false (t_ 74) (t_ 75)),
 (q_ 77 (.bin .eql 93 (t_ 76) (.const (.pointer none))))])
 (.cond (t_ 77)
 (.seq (r_ [m_ 79 5,
 q_ 80 (.call (.func 85) [(t_ 79)]),
 m_ 78 80,
 q_ 81 (.extract (t_ 78) 0),
 q_ 82 (.extract (t_ 78) 1),
 m_ 6 81,
 m_ 7 82])
 (.seq (r_ [m_ 83 7,
 q_ 84 (.bin .eql 50 (t_ 83) (k_ 0))])
 (.cond (t_ 84)
 (.region true [m_ 85 0,
 q_ 86 (.nilCheck (t_ 85)),
 f_ 87 15 86,
 l_ 88 87,
 q_ 89 (.load 7 true (t_ 4)),
 m_ 90 6,
 ⟨none, .mapUpdW 67 90 [.i64, .u32, .u32, .u32, .u32, .u32, .u32] (t_ 88) (t_ 89) (t_ 90), none, false⟩])
 (.skip))))
 (.skip)))
 (.seq (.region true [q_ 91 (.faddr 1 4 true (t_ 3)),
 f_ 92 0 91,
 l_ 93 92,
 m_ 94 0,
 q_ 95 (.nilCheck (t_ 94)),
 f_ 96 13 95,
 l_ 97 96,
 q_ 98 (.iaddr 2 (t_ 93) (t_ 97)),
 q_ 99 (.load 2 true (t_ 98)),
 (q_ 8 (.alloc true 127 (.agg [(.int .u32 0), (.int .u32 0)].toArray))),
 ⟨none, .store 2 (t_ 8) (t_ 99), none, false⟩])
 (.seq (r_ [f_ 101 1 8,
 l_ 102 101,
 m_ 103 5,
 q_ 104 (.call (.func 86) [(t_ 102), (t_ 103)]),
 m_ 100 104,
 q_ 105 (.extract (t_ 100) 0),
 q_ 106 (.extract (t_ 100) 1),
 m_ 9 105,
 m_ 10 106])
 (.seq (r_ [m_ 107 10])
 (.cond (t_ 107)
 (.regionU [m_ 108 0,
 q_ 109 (.nilCheck (t_ 108)),
 f_ 110 15 109,
 l_ 111 110,
 q_ 112 (.load 7 true (t_ 4)),
 q_ 113 (.lookupW 67 90 93 [.i64, .u32, .u32, .u32, .u32, .u32, .u32] (.pointer none) false (t_ 111) (t_ 112)),
 ⟨(some 114), .faddr 0 1 false (t_ 8), none, true⟩,
 ⟨(some 115), .load 1 false (t_ 114), none, true⟩,
 ⟨(some 116), .move (t_ 9), none, true⟩,
 ⟨(some 117), .move (t_ 2), none, true⟩,
 q_ 118 (.call (.func 87) [(t_ 113), (t_ 115), (t_ 116), (t_ 117)])])
 (.skip)))))))))))
 (r_ [q_ 119 (.bin .add 3 (t_ 37) (k_ 1)),
 m_ 37 119])))
/-- (*patchbay/lookup.Index).build -/
def eo3 : AC :=
 .seq (.seq (r_ [m_ 11 0,
 q_ 12 (.nilCheck (t_ 11)),
 f_ 13 10 12,
 l_ 14 13,
 q_ 15 (.bin .eql 3 (t_ 14) (k_ 3))])
 (.cond (t_ 15)
 (.ret)
 (.skip)))
 (.seq (.regionU [⟨(some 16), .move (t_ 0), none, true⟩,
 m_ 17 0,
 q_ 18 (.nilCheck (t_ 17)),
 q_ 19 (.faddr 0 9 true (t_ 18)),
 f_ 20 5 19,
 l_ 21 20,
 m_ 22 0,
 q_ 23 (.nilCheck (t_ 22)),
 f_ 24 9 23,
 l_ 25 24,
 q_ 26 (.iaddr 6 (t_ 21) (t_ 25)),
 f_ 27 1 26,
 l_ 28 27,
 q_ 29 (.call (.func 82) [(t_ 28), (.func 83)]),
 q_ 30 (.nilCheck (t_ 16)),
 f_ 31 13 30,
 ⟨none, .store 1 (t_ 31) (t_ 29), none, false⟩])
 (.seq (r_ [m_ 32 0,
 q_ 33 (.nilCheck (t_ 32)),
 f_ 34 12 33,
 l_ 35 34,
 n_ 36 32 35,
 q_ 37 (.move (k_ 0))])
 (.block 0 (.loop bl3))))
theorem ch5 : FnText Tryz.prog 46 [3, 4, 8, 1000001] 120 1 eo3 [] :=
 ⟨Tryz.call46, follows, Tryz.f46, _, Tryz.func46, rfl, rfl, by decide, by kernel_rfl, by kernel_rfl⟩

def ea3 : AC := rdc (cO Tryz.prog [] 25 Tryz.f50) _ (by conv => lhs; reduce)
def el7 : AC := rdc (lP 0 ea3) _ (by conv => lhs; reduce)
theorem dx3 : FnText Tryz.prog 50 [] 25 2 ea3 [(4, none)] := tX Tryz.call50 follows Tryz.func50 rfl rfl (by decide) (by kernel_rfl) (by kernel_rfl)

def ej1 : AC := rdc (cO Tryz.prog [4, 5] 34 Tryz.f51) _ (by conv => lhs; reduce)
def bq8 : AC := rdc (lP 0 ej1) _ (by conv => lhs; reduce)
theorem cj3 : FnText Tryz.prog 51 [4, 5] 34 2 ej1 [(4, some (7, true))] := tX Tryz.call51 follows Tryz.func51 rfl rfl (by decide) (by kernel_rfl) (by kernel_rfl)

def ek5 : AC := rdc (cO Tryz.prog [] 53 Tryz.f52) _ (by conv => lhs; reduce)
def el2 : AC := rdc (lP 0 ek5) _ (by conv => lhs; reduce)
theorem dw9 : FnText Tryz.prog 52 [] 53 2 ek5 [(4, none), (5, none), (6, none)] := tX Tryz.call52 follows Tryz.func52 rfl rfl (by decide) (by kernel_rfl) (by kernel_rfl)

def ep6 : AC := rdc (cO Tryz.prog [] 8 Tryz.f69) _ (by conv => lhs; reduce)
theorem bw4 : FnText Tryz.prog 69 [] 8 1 ep6 [(2, none)] := tX Tryz.call69 follows Tryz.func69 rfl rfl (by decide) (by kernel_rfl) (by kernel_rfl)

def em8 : AC := rdc (cO Tryz.prog [] 8 Tryz.f70) _ (by conv => lhs; reduce)
theorem cg0 : FnText Tryz.prog 70 [] 8 1 em8 [(2, none)] := tX Tryz.call70 follows Tryz.func70 rfl rfl (by decide) (by kernel_rfl) (by kernel_rfl)

def eq4 : AC := rdc (cO Tryz.prog [] 8 Tryz.f79) _ (by conv => lhs; reduce)
theorem by1 : FnText Tryz.prog 79 [] 8 1 eq4 [(2, none)] := tX Tryz.call79 follows Tryz.func79 rfl rfl (by decide) (by kernel_rfl) (by kernel_rfl)

def ep8 : AC := rdc (cO Tryz.prog [] 6 Tryz.f83) _ (by conv => lhs; reduce)
theorem cf0 : FnText Tryz.prog 83 [] 6 1 ep8 [(2, none)] := tX Tryz.call83 follows Tryz.func83 rfl rfl (by decide) (by kernel_rfl) (by kernel_rfl)

def ep3 : AC := rdc (cO Tryz.prog [9] 12 Tryz.f85) _ (by conv => lhs; reduce)
theorem cg6 : FnText Tryz.prog 85 [9] 12 1 ep3 [(2, none), (3, none)] := tX Tryz.call85 follows Tryz.func85 rfl rfl (by decide) (by kernel_rfl) (by kernel_rfl)

def dy0 : AC := rdc (cO Tryz.prog [44] 66 Tryz.f87) _ (by conv => lhs; reduce)
def at0 : AC := rdc (lP 0 dy0) _ (by conv => lhs; reduce)
theorem bx1 : FnText Tryz.prog 87 [44] 66 4 dy0 [(8, none)] := tX Tryz.call87 follows Tryz.func87 rfl rfl (by decide) (by kernel_rfl) (by kernel_rfl)

def eo2 : AC := rdc (cO Tryz.prog [] 12 Tryz.f96) _ (by conv => lhs; reduce)
theorem bw3 : FnText Tryz.prog 96 [] 12 1 eo2 [(2, none)] := tX Tryz.call96 follows Tryz.func96 rfl rfl (by decide) (by kernel_rfl) (by kernel_rfl)

def em5 : AC := rdc (cO Tryz.prog [] 25 Tryz.f97) _ (by conv => lhs; reduce)
theorem by5 : FnText Tryz.prog 97 [] 25 3 em5 [(6, none)] := tX Tryz.call97 follows Tryz.func97 rfl rfl (by decide) (by kernel_rfl) (by kernel_rfl)

def en7 : AC := rdc (cO Tryz.prog [] 17 Tryz.f98) _ (by conv => lhs; reduce)
theorem ca6 : FnText Tryz.prog 98 [] 17 3 en7 [(6, none)] := tX Tryz.call98 follows Tryz.func98 rfl rfl (by decide) (by kernel_rfl) (by kernel_rfl)

def eo7 : AC := rdc (cO Tryz.prog [0, 2] 30 Tryz.f28) _ (by conv => lhs; reduce)
theorem dq2 : FnText Tryz.prog 28 [0, 2] 30 0 eo7 [(0, some (9, true)), (1, none)] := tX Tryz.call28 follows Tryz.func28 rfl rfl (by decide) (by kernel_rfl) (by kernel_rfl)

def er3 : AC := rdc (cO Tryz.prog [0] 8 Tryz.f67) _ (by conv => lhs; reduce)
theorem dp5 : FnText Tryz.prog 67 [0] 8 0 er3 [(0, some (9, true))] := tX Tryz.call67 follows Tryz.func67 rfl rfl (by decide) (by kernel_rfl) (by kernel_rfl)

def eo6 : AC := rdc (cO Tryz.prog [] 11 Tryz.f56) _ (by conv => lhs; reduce)
theorem ck9 : FnText Tryz.prog 56 [] 11 1 eo6 [] := tX Tryz.call56 follows Tryz.func56 rfl rfl (by decide) (by kernel_rfl) (by kernel_rfl)

def ec7 : AC := rdc (cO Tryz.prog [] 8 Tryz.f103) _ (by conv => lhs; reduce)
theorem cw2 : FnText Tryz.prog 103 [] 8 1 ec7 [(2, none)] := tX Tryz.call103 follows Tryz.func103 rfl rfl (by decide) (by kernel_rfl) (by kernel_rfl)

def eh4 : AC := rdc (cO Tryz.prog [] 19 Tryz.f139) _ (by conv => lhs; reduce)
theorem cp8 : FnText Tryz.prog 139 [] 19 1 eh4 [(2, none)] := tX Tryz.call139 follows Tryz.func139 rfl rfl (by decide) (by kernel_rfl) (by kernel_rfl)

def di9 : AC := rdc (cO Tryz.prog [] 134 Tryz.f102) _ (by conv => lhs; reduce)
def ei2 : AC := rdc (lP 0 di9) _ (by conv => lhs; reduce)
theorem df7 : FnText Tryz.prog 102 [] 134 4 di9 [] := tX Tryz.call102 follows Tryz.func102 rfl rfl (by decide) (by kernel_rfl) (by kernel_rfl)

def cn9 : AC := rdc (cO Tryz.prog [] 49 Tryz.f130) _ (by conv => lhs; reduce)
def eb3 : AC := rdc (lP 0 cn9) _ (by conv => lhs; reduce)
def ea2 : AC := rdc (lP 1 cn9) _ (by conv => lhs; reduce)
theorem cs9 : FnText Tryz.prog 130 [] 49 3 cn9 [] := tX Tryz.call130 follows Tryz.func130 rfl rfl (by decide) (by kernel_rfl) (by kernel_rfl)

def dy8 : AC := rdc (cO Tryz.prog [] 17 Tryz.f136) _ (by conv => lhs; reduce)
theorem cs3 : FnText Tryz.prog 136 [] 17 2 dy8 [(4, none)] := tX Tryz.call136 follows Tryz.func136 rfl rfl (by decide) (by kernel_rfl) (by kernel_rfl)

def ea5 : AC := rdc (cO Tryz.prog [] 6 Tryz.f154) _ (by conv => lhs; reduce)
theorem cp7 : FnText Tryz.prog 154 [] 6 1 ea5 [(2, none)] := tX Tryz.call154 follows Tryz.func154 rfl rfl (by decide) (by kernel_rfl) (by kernel_rfl)

def cc7 : AC := rdc (cO Tryz.prog [] 56 Tryz.f131) _ (by conv => lhs; reduce)
def ea4 : AC := rdc (lP 0 cc7) _ (by conv => lhs; reduce)
def ec8 : AC := rdc (lP 1 cc7) _ (by conv => lhs; reduce)
theorem cv9 : FnText Tryz.prog 131 [] 56 3 cc7 [] := tX Tryz.call131 follows Tryz.func131 rfl rfl (by decide) (by kernel_rfl) (by kernel_rfl)

def dg3 : AC := rdc (cO Tryz.prog [] 76 Tryz.f149) _ (by conv => lhs; reduce)
def dz2 : AC := rdc (lP 0 dg3) _ (by conv => lhs; reduce)
theorem cv4 : FnText Tryz.prog 149 [] 76 4 dg3 [] := tX Tryz.call149 follows Tryz.func149 rfl rfl (by decide) (by kernel_rfl) (by kernel_rfl)

def dh1 : AC := rdc (cO Tryz.prog [7] 65 Tryz.f132) _ (by conv => lhs; reduce)
def ei4 : AC := rdc (lP 0 dh1) _ (by conv => lhs; reduce)
theorem db9 : FnText Tryz.prog 132 [7] 65 3 dh1 [] := tX Tryz.call132 follows Tryz.func132 rfl rfl (by decide) (by kernel_rfl) (by kernel_rfl)

def ed5 : AC := rdc (cO Tryz.prog [] 7 Tryz.f150) _ (by conv => lhs; reduce)
theorem db7 : FnText Tryz.prog 150 [] 7 1 ed5 [(2, none)] := tX Tryz.call150 follows Tryz.func150 rfl rfl (by decide) (by kernel_rfl) (by kernel_rfl)

def ej7 : AC := rdc (cO Tryz.prog [] 33 Tryz.f151) _ (by conv => lhs; reduce)
theorem dc8 : FnText Tryz.prog 151 [] 33 1 ej7 [(2, none)] := tX Tryz.call151 follows Tryz.func151 rfl rfl (by decide) (by kernel_rfl) (by kernel_rfl)

def ef0 : AC := rdc (cO Tryz.prog [9] 57 Tryz.f133) _ (by conv => lhs; reduce)
theorem dd4 : FnText Tryz.prog 133 [9] 57 3 ef0 [(6, none), (7, none)] := tX Tryz.call133 follows Tryz.func133 rfl rfl (by decide) (by kernel_rfl) (by kernel_rfl)

def ec3 : AC := rdc (cO Tryz.prog [] 15 Tryz.f152) _ (by conv => lhs; reduce)
theorem df3 : FnText Tryz.prog 152 [] 15 3 ec3 [(6, none)] := tX Tryz.call152 follows Tryz.func152 rfl rfl (by decide) (by kernel_rfl) (by kernel_rfl)

def dy7 : AC := rdc (cO Tryz.prog [] 36 Tryz.f153) _ (by conv => lhs; reduce)
theorem cz5 : FnText Tryz.prog 153 [] 36 5 dy7 [(10, none)] := tX Tryz.call153 follows Tryz.func153 rfl rfl (by decide) (by kernel_rfl) (by kernel_rfl)

def ej3 : AC := rdc (cO Tryz.prog [] 28 Tryz.f158) _ (by conv => lhs; reduce)
theorem cz1 : FnText Tryz.prog 158 [] 28 4 ej3 [(8, none), (9, none)] := tX Tryz.call158 follows Tryz.func158 rfl rfl (by decide) (by kernel_rfl) (by kernel_rfl)

def df9 : AC := rdc (cO Tryz.prog [] 32 Tryz.f134) _ (by conv => lhs; reduce)
def dz4 : AC := rdc (lP 0 df9) _ (by conv => lhs; reduce)
theorem da2 : FnText Tryz.prog 134 [] 32 3 df9 [] := tX Tryz.call134 follows Tryz.func134 rfl rfl (by decide) (by kernel_rfl) (by kernel_rfl)

def ba6 : AC := rdc (cO Tryz.prog [] 133 Tryz.f135) _ (by conv => lhs; reduce)
def ei1 : AC := rdc (lP 0 ba6) _ (by conv => lhs; reduce)
def ei6 : AC := rdc (lP 1 ba6) _ (by conv => lhs; reduce)
def ee4 : AC := rdc (lP 2 ba6) _ (by conv => lhs; reduce)
def ec9 : AC := rdc (lP 3 ba6) _ (by conv => lhs; reduce)
theorem cq7 : FnText Tryz.prog 135 [] 133 3 ba6 [(6, none)] := tX Tryz.call135 follows Tryz.func135 rfl rfl (by decide) (by kernel_rfl) (by kernel_rfl)

def bn6 : AC := rdc (cO Tryz.prog [] 84 Tryz.f137) _ (by conv => lhs; reduce)
def ek2 : AC := rdc (lP 0 bn6) _ (by conv => lhs; reduce)
def ee2 : AC := rdc (lP 1 bn6) _ (by conv => lhs; reduce)
def dy5 : AC := rdc (lP 2 bn6) _ (by conv => lhs; reduce)
theorem cu3 : FnText Tryz.prog 137 [] 84 4 bn6 [(8, none)] := tX Tryz.call137 follows Tryz.func137 rfl rfl (by decide) (by kernel_rfl) (by kernel_rfl)

def ar4 : AC := rdc (cO Tryz.prog [] 168 Tryz.f138) _ (by conv => lhs; reduce)
def dy2 : AC := rdc (lP 0 ar4) _ (by conv => lhs; reduce)
def eh5 : AC := rdc (lP 1 ar4) _ (by conv => lhs; reduce)
def eh9 : AC := rdc (lP 2 ar4) _ (by conv => lhs; reduce)
def dz3 : AC := rdc (lP 3 ar4) _ (by conv => lhs; reduce)
def ef9 : AC := rdc (lP 4 ar4) _ (by conv => lhs; reduce)
theorem cy3 : FnText Tryz.prog 138 [] 168 4 ar4 [(8, none), (9, none)] := tX Tryz.call138 follows Tryz.func138 rfl rfl (by decide) (by kernel_rfl) (by kernel_rfl)

def ek7 : AC := rdc (cO Tryz.prog [] 26 Tryz.f21) _ (by conv => lhs; reduce)
def el8 : AC := rdc (lP 0 ek7) _ (by conv => lhs; reduce)
theorem dl9 : FnText Tryz.prog 21 [] 26 2 ek7 [(4, none)] := tX Tryz.call21 follows Tryz.func21 rfl rfl (by decide) (by kernel_rfl) (by kernel_rfl)

end Go.Proofs.YthdnpgpnodgicaaGreat
