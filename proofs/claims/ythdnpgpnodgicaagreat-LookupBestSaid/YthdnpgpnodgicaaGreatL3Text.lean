/-
  The text of each function of this seat, as the plain library tells it; each by the kernel's own reckoning from the program.
-/
import Derived.Test.YthdnpgpnodgicaaGreatPbV
import Derived.Test.YthdnpgpnodgicaaGreatRows
set_option linter.unusedVariables false
set_option maxRecDepth 100000
namespace Go.Proofs.YthdnpgpnodgicaaGreat
open Go Go.Pb
theorem follows : Tryz.prog.follows .mixedOrders = true := by kernel_rfl
def ac63 : AC := rdc (cO Tryz.prog [] 50 Tryz.f63) _ (by conv => lhs; reduce)
def ac63_L1 : AC := rdc (lP 0 ac63) _ (by conv => lhs; reduce)
theorem text63 : FnText Tryz.prog 63 [] 50 2 ac63 [(4, none)] := tX Tryz.call63 follows Tryz.func63 rfl rfl (by decide) (by kernel_rfl) (by kernel_rfl)

def ac64 : AC := rdc (cO Tryz.prog [] 29 Tryz.f64) _ (by conv => lhs; reduce)
def ac64_L1 : AC := rdc (lP 0 ac64) _ (by conv => lhs; reduce)
theorem text64 : FnText Tryz.prog 64 [] 29 1 ac64 [(2, none)] := tX Tryz.call64 follows Tryz.func64 rfl rfl (by decide) (by kernel_rfl) (by kernel_rfl)

def ac65 : AC := rdc (cO Tryz.prog [] 45 Tryz.f65) _ (by conv => lhs; reduce)
def ac65_L1 : AC := rdc (lP 0 ac65) _ (by conv => lhs; reduce)
theorem text65 : FnText Tryz.prog 65 [] 45 1 ac65 [(2, none)] := tX Tryz.call65 follows Tryz.func65 rfl rfl (by decide) (by kernel_rfl) (by kernel_rfl)

def ac66 : AC := rdc (cO Tryz.prog [] 19 Tryz.f66) _ (by conv => lhs; reduce)
theorem text66 : FnText Tryz.prog 66 [] 19 1 ac66 [(2, none)] := tX Tryz.call66 follows Tryz.func66 rfl rfl (by decide) (by kernel_rfl) (by kernel_rfl)

def ac27 : AC := rdc (cO Tryz.prog [] 145 Tryz.f27) _ (by conv => lhs; reduce)
def ac27_L1 : AC := rdc (lP 0 ac27) _ (by conv => lhs; reduce)
def ac27_L2 : AC := rdc (lP 1 ac27) _ (by conv => lhs; reduce)
def ac27_L3 : AC := rdc (lP 2 ac27) _ (by conv => lhs; reduce)
def ac27_L4 : AC := rdc (lP 3 ac27) _ (by conv => lhs; reduce)
theorem text27 : FnText Tryz.prog 27 [] 145 1 ac27 [(2, none)] := tX Tryz.call27 follows Tryz.func27 rfl rfl (by decide) (by kernel_rfl) (by kernel_rfl)

def ac10 : AC := rdc (cO Tryz.prog [] 47 Tryz.f10) _ (by conv => lhs; reduce)
def ac10_L1 : AC := rdc (lP 0 ac10) _ (by conv => lhs; reduce)
theorem text10 : FnText Tryz.prog 10 [] 47 1 ac10 [(2, none)] := tX Tryz.call10 follows Tryz.func10 rfl rfl (by decide) (by kernel_rfl) (by kernel_rfl)

def ac11 : AC := rdc (cO Tryz.prog [1, 3, 5, 9] 89 Tryz.f11) _ (by conv => lhs; reduce)
theorem text11 : FnText Tryz.prog 11 [1, 3, 5, 9] 89 0 ac11 [(0, none)] := tX Tryz.call11 follows Tryz.func11 rfl rfl (by decide) (by kernel_rfl) (by kernel_rfl)

def ac30 : AC := rdc (cO Tryz.prog [6] 33 Tryz.f30) _ (by conv => lhs; reduce)
def ac30_L1 : AC := rdc (lP 0 ac30) _ (by conv => lhs; reduce)
theorem text30 : FnText Tryz.prog 30 [6] 33 2 ac30 [(4, none)] := tX Tryz.call30 follows Tryz.func30 rfl rfl (by decide) (by kernel_rfl) (by kernel_rfl)

def ac31 : AC := rdc (cO Tryz.prog [4, 7] 21 Tryz.f31) _ (by conv => lhs; reduce)
def ac31_L1 : AC := rdc (lP 0 ac31) _ (by conv => lhs; reduce)
theorem text31 : FnText Tryz.prog 31 [4, 7] 21 2 ac31 [(4, some (5, true)), (5, none)] := tX Tryz.call31 follows Tryz.func31 rfl rfl (by decide) (by kernel_rfl) (by kernel_rfl)

def ac107 : AC := rdc (cO Tryz.prog [] 17 Tryz.f107) _ (by conv => lhs; reduce)
def ac107_L1 : AC := rdc (lP 0 ac107) _ (by conv => lhs; reduce)
theorem text107 : FnText Tryz.prog 107 [] 17 1 ac107 [(2, none)] := tX Tryz.call107 follows Tryz.func107 rfl rfl (by decide) (by kernel_rfl) (by kernel_rfl)

def ac68 : AC := rdc (cO Tryz.prog [8] 46 Tryz.f68) _ (by conv => lhs; reduce)
def ac68_L1 : AC := rdc (lP 0 ac68) _ (by conv => lhs; reduce)
theorem text68 : FnText Tryz.prog 68 [8] 46 3 ac68 [(6, none)] := tX Tryz.call68 follows Tryz.func68 rfl rfl (by decide) (by kernel_rfl) (by kernel_rfl)

def ac34 : AC := rdc (cO Tryz.prog [] 46 Tryz.f34) _ (by conv => lhs; reduce)
theorem text34 : FnText Tryz.prog 34 [] 46 4 ac34 [(8, none)] := tX Tryz.call34 follows Tryz.func34 rfl rfl (by decide) (by kernel_rfl) (by kernel_rfl)

def ac12 : AC := rdc (cO Tryz.prog [8, 10, 11] 33 Tryz.f12) _ (by conv => lhs; reduce)
theorem text12 : FnText Tryz.prog 12 [8, 10, 11] 33 4 ac12 [(8, some (5, true)), (9, none)] := tX Tryz.call12 follows Tryz.func12 rfl rfl (by decide) (by kernel_rfl) (by kernel_rfl)

def ac36 : AC := rdc (cO Tryz.prog [] 37 Tryz.f36) _ (by conv => lhs; reduce)
def ac36_L1 : AC := rdc (lP 0 ac36) _ (by conv => lhs; reduce)
theorem text36 : FnText Tryz.prog 36 [] 37 2 ac36 [(4, none)] := tX Tryz.call36 follows Tryz.func36 rfl rfl (by decide) (by kernel_rfl) (by kernel_rfl)

def ac108 : AC := rdc (cO Tryz.prog [] 17 Tryz.f108) _ (by conv => lhs; reduce)
def ac108_L1 : AC := rdc (lP 0 ac108) _ (by conv => lhs; reduce)
theorem text108 : FnText Tryz.prog 108 [] 17 1 ac108 [(2, none)] := tX Tryz.call108 follows Tryz.func108 rfl rfl (by decide) (by kernel_rfl) (by kernel_rfl)

def ac71 : AC := rdc (cO Tryz.prog [] 51 Tryz.f71) _ (by conv => lhs; reduce)
def ac71_L1 : AC := rdc (lP 0 ac71) _ (by conv => lhs; reduce)
theorem text71 : FnText Tryz.prog 71 [] 51 3 ac71 [(6, none)] := tX Tryz.call71 follows Tryz.func71 rfl rfl (by decide) (by kernel_rfl) (by kernel_rfl)

def ac37 : AC := rdc (cO Tryz.prog [] 48 Tryz.f37) _ (by conv => lhs; reduce)
theorem text37 : FnText Tryz.prog 37 [] 48 4 ac37 [(8, none)] := tX Tryz.call37 follows Tryz.func37 rfl rfl (by decide) (by kernel_rfl) (by kernel_rfl)

def ac13 : AC := rdc (cO Tryz.prog [8, 10] 58 Tryz.f13) _ (by conv => lhs; reduce)
def ac13_L1 : AC := rdc (lP 0 ac13) _ (by conv => lhs; reduce)
theorem text13 : FnText Tryz.prog 13 [8, 10] 58 4 ac13 [(8, some (5, true)), (9, none)] := tX Tryz.call13 follows Tryz.func13 rfl rfl (by decide) (by kernel_rfl) (by kernel_rfl)

def ac49 : AC := rdc (cO Tryz.prog [] 38 Tryz.f49) _ (by conv => lhs; reduce)
def ac49_L1 : AC := rdc (lP 0 ac49) _ (by conv => lhs; reduce)
theorem text49 : FnText Tryz.prog 49 [] 38 2 ac49 [(4, none)] := tX Tryz.call49 follows Tryz.func49 rfl rfl (by decide) (by kernel_rfl) (by kernel_rfl)

def ac72 : AC := rdc (cO Tryz.prog [] 38 Tryz.f72) _ (by conv => lhs; reduce)
def ac72_L1 : AC := rdc (lP 0 ac72) _ (by conv => lhs; reduce)
theorem text72 : FnText Tryz.prog 72 [] 38 2 ac72 [(4, none)] := tX Tryz.call72 follows Tryz.func72 rfl rfl (by decide) (by kernel_rfl) (by kernel_rfl)

def ac38 : AC := rdc (cO Tryz.prog [] 15 Tryz.f38) _ (by conv => lhs; reduce)
theorem text38 : FnText Tryz.prog 38 [] 15 2 ac38 [(4, none)] := tX Tryz.call38 follows Tryz.func38 rfl rfl (by decide) (by kernel_rfl) (by kernel_rfl)

def ac14 : AC := rdc (cO Tryz.prog [] 17 Tryz.f14) _ (by conv => lhs; reduce)
theorem text14 : FnText Tryz.prog 14 [] 17 2 ac14 [(4, none)] := tX Tryz.call14 follows Tryz.func14 rfl rfl (by decide) (by kernel_rfl) (by kernel_rfl)

def ac3 : AC := rdc (cO Tryz.prog [3, 5] 45 Tryz.f3) _ (by conv => lhs; reduce)
theorem text3 : FnText Tryz.prog 3 [3, 5] 45 1 ac3 [(2, none)] := tX Tryz.call3 follows Tryz.func3 rfl rfl (by decide) (by kernel_rfl) (by kernel_rfl)

def ac29 : AC := rdc (cO Tryz.prog [] 8 Tryz.f29) _ (by conv => lhs; reduce)
theorem text29 : FnText Tryz.prog 29 [] 8 2 ac29 [(3, none)] := tX Tryz.call29 follows Tryz.func29 rfl rfl (by decide) (by kernel_rfl) (by kernel_rfl)

def ac32 : AC := rdc (cO Tryz.prog [7] 21 Tryz.f32) _ (by conv => lhs; reduce)
theorem text32 : FnText Tryz.prog 32 [7] 21 5 ac32 [(6, none)] := tX Tryz.call32 follows Tryz.func32 rfl rfl (by decide) (by kernel_rfl) (by kernel_rfl)

def ac33 : AC := rdc (cO Tryz.prog [] 17 Tryz.f33) _ (by conv => lhs; reduce)
theorem text33 : FnText Tryz.prog 33 [] 17 5 ac33 [(6, none)] := tX Tryz.call33 follows Tryz.func33 rfl rfl (by decide) (by kernel_rfl) (by kernel_rfl)

def ac35 : AC := rdc (cO Tryz.prog [1, 2] 18 Tryz.f35) _ (by conv => lhs; reduce)
theorem text35 : FnText Tryz.prog 35 [1, 2] 18 1 ac35 [(2, some (5, true))] := tX Tryz.call35 follows Tryz.func35 rfl rfl (by decide) (by kernel_rfl) (by kernel_rfl)

def ac69 : AC := rdc (cO Tryz.prog [] 8 Tryz.f69) _ (by conv => lhs; reduce)
theorem text69 : FnText Tryz.prog 69 [] 8 1 ac69 [(2, none)] := tX Tryz.call69 follows Tryz.func69 rfl rfl (by decide) (by kernel_rfl) (by kernel_rfl)

def ac70 : AC := rdc (cO Tryz.prog [] 8 Tryz.f70) _ (by conv => lhs; reduce)
theorem text70 : FnText Tryz.prog 70 [] 8 1 ac70 [(2, none)] := tX Tryz.call70 follows Tryz.func70 rfl rfl (by decide) (by kernel_rfl) (by kernel_rfl)

def ac28 : AC := rdc (cO Tryz.prog [0, 2] 30 Tryz.f28) _ (by conv => lhs; reduce)
theorem text28 : FnText Tryz.prog 28 [0, 2] 30 0 ac28 [(0, some (9, true)), (1, none)] := tX Tryz.call28 follows Tryz.func28 rfl rfl (by decide) (by kernel_rfl) (by kernel_rfl)

def ac67 : AC := rdc (cO Tryz.prog [0] 8 Tryz.f67) _ (by conv => lhs; reduce)
theorem text67 : FnText Tryz.prog 67 [0] 8 0 ac67 [(0, some (9, true))] := tX Tryz.call67 follows Tryz.func67 rfl rfl (by decide) (by kernel_rfl) (by kernel_rfl)

def ac15 : AC := rdc (cO Tryz.prog [12, 14, 76, 18, 1000003] 98 Tryz.f15) _ (by conv => lhs; reduce)
def ac15_L1 : AC := rdc (lP 0 ac15) _ (by conv => lhs; reduce)
def ac15_L2 : AC := rdc (lP 1 ac15) _ (by conv => lhs; reduce)
theorem text15 : FnText Tryz.prog 15 [12, 14, 76, 18, 1000003] 98 3 ac15 [(6, none), (7, none)] := tX Tryz.call15 follows Tryz.func15 rfl rfl (by decide) (by kernel_rfl) (by kernel_rfl)

def ac39 : AC := rdc (cO Tryz.prog [6] 62 Tryz.f39) _ (by conv => lhs; reduce)
theorem text39 : FnText Tryz.prog 39 [6] 62 2 ac39 [(4, none), (5, none)] := tX Tryz.call39 follows Tryz.func39 rfl rfl (by decide) (by kernel_rfl) (by kernel_rfl)

def ac73 : AC := rdc (cO Tryz.prog [] 22 Tryz.f73) _ (by conv => lhs; reduce)
theorem text73 : FnText Tryz.prog 73 [] 22 1 ac73 [(2, none)] := tX Tryz.call73 follows Tryz.func73 rfl rfl (by decide) (by kernel_rfl) (by kernel_rfl)

def ac109 : AC := rdc (cO Tryz.prog [] 17 Tryz.f109) _ (by conv => lhs; reduce)
theorem text109 : FnText Tryz.prog 109 [] 17 1 ac109 [(2, none)] := tX Tryz.call109 follows Tryz.func109 rfl rfl (by decide) (by kernel_rfl) (by kernel_rfl)

def ac110 : AC := rdc (cO Tryz.prog [] 20 Tryz.f110) _ (by conv => lhs; reduce)
def ac110_L1 : AC := rdc (lP 0 ac110) _ (by conv => lhs; reduce)
theorem text110 : FnText Tryz.prog 110 [] 20 2 ac110 [(4, none)] := tX Tryz.call110 follows Tryz.func110 rfl rfl (by decide) (by kernel_rfl) (by kernel_rfl)

def ac111 : AC := rdc (cO Tryz.prog [] 13 Tryz.f111) _ (by conv => lhs; reduce)
theorem text111 : FnText Tryz.prog 111 [] 13 1 ac111 [(2, none)] := tX Tryz.call111 follows Tryz.func111 rfl rfl (by decide) (by kernel_rfl) (by kernel_rfl)

def ac112 : AC := rdc (cO Tryz.prog [] 9 Tryz.f112) _ (by conv => lhs; reduce)
theorem text112 : FnText Tryz.prog 112 [] 9 1 ac112 [(2, none)] := tX Tryz.call112 follows Tryz.func112 rfl rfl (by decide) (by kernel_rfl) (by kernel_rfl)

def ac74 : AC := rdc (cO Tryz.prog [9] 44 Tryz.f74) _ (by conv => lhs; reduce)
def ac74_L1 : AC := rdc (lP 0 ac74) _ (by conv => lhs; reduce)
theorem text74 : FnText Tryz.prog 74 [9] 44 2 ac74 [(4, none), (5, none)] := tX Tryz.call74 follows Tryz.func74 rfl rfl (by decide) (by kernel_rfl) (by kernel_rfl)

def ac81 : AC := rdc (cO Tryz.prog [] 18 Tryz.f81) _ (by conv => lhs; reduce)
theorem text81 : FnText Tryz.prog 81 [] 18 2 ac81 [(4, none)] := tX Tryz.call81 follows Tryz.func81 rfl rfl (by decide) (by kernel_rfl) (by kernel_rfl)

def ac115 : AC := rdc (cO Tryz.prog [] 14 Tryz.f115) _ (by conv => lhs; reduce)
theorem text115 : FnText Tryz.prog 115 [] 14 2 ac115 [(4, none)] := tX Tryz.call115 follows Tryz.func115 rfl rfl (by decide) (by kernel_rfl) (by kernel_rfl)

def ac144 : AC := rdc (cO Tryz.prog [4] 19 Tryz.f144) _ (by conv => lhs; reduce)
theorem text144 : FnText Tryz.prog 144 [4] 19 2 ac144 [(4, some (2, true))] := tX Tryz.call144 follows Tryz.func144 rfl rfl (by decide) (by kernel_rfl) (by kernel_rfl)

def ac114 : AC := rdc (cO Tryz.prog [4] 19 Tryz.f114) _ (by conv => lhs; reduce)
theorem text114 : FnText Tryz.prog 114 [4] 19 2 ac114 [(4, some (2, true))] := tX Tryz.call114 follows Tryz.func114 rfl rfl (by decide) (by kernel_rfl) (by kernel_rfl)

def ac113 : AC := rdc (cO Tryz.prog [] 10 Tryz.f113) _ (by conv => lhs; reduce)
theorem text113 : FnText Tryz.prog 113 [] 10 1 ac113 [(2, none)] := tX Tryz.call113 follows Tryz.func113 rfl rfl (by decide) (by kernel_rfl) (by kernel_rfl)

def ac116 : AC := rdc (cO Tryz.prog [] 18 Tryz.f116) _ (by conv => lhs; reduce)
def ac116_L1 : AC := rdc (lP 0 ac116) _ (by conv => lhs; reduce)
theorem text116 : FnText Tryz.prog 116 [] 18 1 ac116 [(2, none)] := tX Tryz.call116 follows Tryz.func116 rfl rfl (by decide) (by kernel_rfl) (by kernel_rfl)

def ac75 : AC := rdc (cO Tryz.prog [] 41 Tryz.f75) _ (by conv => lhs; reduce)
def ac75_L1 : AC := rdc (lP 0 ac75) _ (by conv => lhs; reduce)
theorem text75 : FnText Tryz.prog 75 [] 41 2 ac75 [(4, none)] := tX Tryz.call75 follows Tryz.func75 rfl rfl (by decide) (by kernel_rfl) (by kernel_rfl)

def ac78 : AC := rdc (cO Tryz.prog [] 49 Tryz.f78) _ (by conv => lhs; reduce)
def ac78_L1 : AC := rdc (lP 0 ac78) _ (by conv => lhs; reduce)
theorem text78 : FnText Tryz.prog 78 [] 49 2 ac78 [(4, none)] := tX Tryz.call78 follows Tryz.func78 rfl rfl (by decide) (by kernel_rfl) (by kernel_rfl)

def ac95 : AC := rdc (cO Tryz.prog [] 14 Tryz.f95) _ (by conv => lhs; reduce)
theorem text95 : FnText Tryz.prog 95 [] 14 2 ac95 [(4, none)] := tX Tryz.call95 follows Tryz.func95 rfl rfl (by decide) (by kernel_rfl) (by kernel_rfl)

def ac40 : AC := rdc (cO Tryz.prog [12] 92 Tryz.f40) _ (by conv => lhs; reduce)
def ac40_L1 : AC := rdc (lP 0 ac40) _ (by conv => lhs; reduce)
theorem text40 : FnText Tryz.prog 40 [12] 92 3 ac40 [(6, none)] := tX Tryz.call40 follows Tryz.func40 rfl rfl (by decide) (by kernel_rfl) (by kernel_rfl)

def ac45 : AC := rdc (cO Tryz.prog [7] 32 Tryz.f45) _ (by conv => lhs; reduce)
def ac45_L1 : AC := rdc (lP 0 ac45) _ (by conv => lhs; reduce)
theorem text45 : FnText Tryz.prog 45 [7] 32 2 ac45 [(4, none)] := tX Tryz.call45 follows Tryz.func45 rfl rfl (by decide) (by kernel_rfl) (by kernel_rfl)

def ac80 : AC := rdc (cO Tryz.prog [] 15 Tryz.f80) _ (by conv => lhs; reduce)
theorem text80 : FnText Tryz.prog 80 [] 15 2 ac80 [(4, none)] := tX Tryz.call80 follows Tryz.func80 rfl rfl (by decide) (by kernel_rfl) (by kernel_rfl)

def ac76 : AC := rdc (cO Tryz.prog [] 50 Tryz.f76) _ (by conv => lhs; reduce)
theorem text76 : FnText Tryz.prog 76 [] 50 3 ac76 [(6, none)] := tX Tryz.call76 follows Tryz.func76 rfl rfl (by decide) (by kernel_rfl) (by kernel_rfl)

def ac86 : AC := rdc (cO Tryz.prog [] 23 Tryz.f86) _ (by conv => lhs; reduce)
def ac86_L1 : AC := rdc (lP 0 ac86) _ (by conv => lhs; reduce)
theorem text86 : FnText Tryz.prog 86 [] 23 2 ac86 [(4, none), (5, none)] := tX Tryz.call86 follows Tryz.func86 rfl rfl (by decide) (by kernel_rfl) (by kernel_rfl)

def ac117 : AC := rdc (cO Tryz.prog [] 19 Tryz.f117) _ (by conv => lhs; reduce)
theorem text117 : FnText Tryz.prog 117 [] 19 2 ac117 [(4, none)] := tX Tryz.call117 follows Tryz.func117 rfl rfl (by decide) (by kernel_rfl) (by kernel_rfl)

def ac44 : AC := rdc (cO Tryz.prog [7] 33 Tryz.f44) _ (by conv => lhs; reduce)
def ac44_L1 : AC := rdc (lP 0 ac44) _ (by conv => lhs; reduce)
theorem text44 : FnText Tryz.prog 44 [7] 33 2 ac44 [(4, none)] := tX Tryz.call44 follows Tryz.func44 rfl rfl (by decide) (by kernel_rfl) (by kernel_rfl)

def ac77 : AC := rdc (cO Tryz.prog [] 28 Tryz.f77) _ (by conv => lhs; reduce)
def ac77_L1 : AC := rdc (lP 0 ac77) _ (by conv => lhs; reduce)
theorem text77 : FnText Tryz.prog 77 [] 28 3 ac77 [(6, none)] := tX Tryz.call77 follows Tryz.func77 rfl rfl (by decide) (by kernel_rfl) (by kernel_rfl)

def ac41 : AC := rdc (cO Tryz.prog [] 9 Tryz.f41) _ (by conv => lhs; reduce)
theorem text41 : FnText Tryz.prog 41 [] 9 2 ac41 [(3, none)] := tX Tryz.call41 follows Tryz.func41 rfl rfl (by decide) (by kernel_rfl) (by kernel_rfl)

def ac42 : AC := rdc (cO Tryz.prog [6] 37 Tryz.f42) _ (by conv => lhs; reduce)
def ac42_L1 : AC := rdc (lP 0 ac42) _ (by conv => lhs; reduce)
theorem text42 : FnText Tryz.prog 42 [6] 37 2 ac42 [(4, none)] := tX Tryz.call42 follows Tryz.func42 rfl rfl (by decide) (by kernel_rfl) (by kernel_rfl)

def ac43 : AC := rdc (cO Tryz.prog [4, 5] 23 Tryz.f43) _ (by conv => lhs; reduce)
theorem text43 : FnText Tryz.prog 43 [4, 5] 23 2 ac43 [(4, some (9, true))] := tX Tryz.call43 follows Tryz.func43 rfl rfl (by decide) (by kernel_rfl) (by kernel_rfl)

def ac79 : AC := rdc (cO Tryz.prog [] 8 Tryz.f79) _ (by conv => lhs; reduce)
theorem text79 : FnText Tryz.prog 79 [] 8 1 ac79 [(2, none)] := tX Tryz.call79 follows Tryz.func79 rfl rfl (by decide) (by kernel_rfl) (by kernel_rfl)

def ac46 : AC := rdc (cO Tryz.prog [3, 4, 8, 1000004] 120 Tryz.f46) _ (by conv => lhs; reduce)
def ac46_L1 : AC := rdc (lP 0 ac46) _ (by conv => lhs; reduce)
theorem text46 : FnText Tryz.prog 46 [3, 4, 8, 1000004] 120 1 ac46 [] := tX Tryz.call46 follows Tryz.func46 rfl rfl (by decide) (by kernel_rfl) (by kernel_rfl)

def ac82 : AC := rdc (cO Tryz.prog [] 19 Tryz.f82) _ (by conv => lhs; reduce)
def ac82_L1 : AC := rdc (lP 0 ac82) _ (by conv => lhs; reduce)
theorem text82 : FnText Tryz.prog 82 [] 19 2 ac82 [(4, none)] := tX Tryz.call82 follows Tryz.func82 rfl rfl (by decide) (by kernel_rfl) (by kernel_rfl)

def ac83 : AC := rdc (cO Tryz.prog [] 6 Tryz.f83) _ (by conv => lhs; reduce)
theorem text83 : FnText Tryz.prog 83 [] 6 1 ac83 [(2, none)] := tX Tryz.call83 follows Tryz.func83 rfl rfl (by decide) (by kernel_rfl) (by kernel_rfl)

def ac84 : AC := rdc (cO Tryz.prog [5] 20 Tryz.f84) _ (by conv => lhs; reduce)
def ac84_L1 : AC := rdc (lP 0 ac84) _ (by conv => lhs; reduce)
theorem text84 : FnText Tryz.prog 84 [5] 20 1 ac84 [(2, none)] := tX Tryz.call84 follows Tryz.func84 rfl rfl (by decide) (by kernel_rfl) (by kernel_rfl)

def ac51 : AC := rdc (cO Tryz.prog [4, 5] 34 Tryz.f51) _ (by conv => lhs; reduce)
def ac51_L1 : AC := rdc (lP 0 ac51) _ (by conv => lhs; reduce)
theorem text51 : FnText Tryz.prog 51 [4, 5] 34 2 ac51 [(4, some (7, true))] := tX Tryz.call51 follows Tryz.func51 rfl rfl (by decide) (by kernel_rfl) (by kernel_rfl)

def ac85 : AC := rdc (cO Tryz.prog [9] 12 Tryz.f85) _ (by conv => lhs; reduce)
theorem text85 : FnText Tryz.prog 85 [9] 12 1 ac85 [(2, none), (3, none)] := tX Tryz.call85 follows Tryz.func85 rfl rfl (by decide) (by kernel_rfl) (by kernel_rfl)

def ac17 : AC := rdc (cO Tryz.prog [4, 7, 1000004] 137 Tryz.f17) _ (by conv => lhs; reduce)
theorem text17 : FnText Tryz.prog 17 [4, 7, 1000004] 137 2 ac17 [(4, some (5, true)), (5, none)] := tX Tryz.call17 follows Tryz.func17 rfl rfl (by decide) (by kernel_rfl) (by kernel_rfl)

def ac50 : AC := rdc (cO Tryz.prog [] 25 Tryz.f50) _ (by conv => lhs; reduce)
def ac50_L1 : AC := rdc (lP 0 ac50) _ (by conv => lhs; reduce)
theorem text50 : FnText Tryz.prog 50 [] 25 2 ac50 [(4, none)] := tX Tryz.call50 follows Tryz.func50 rfl rfl (by decide) (by kernel_rfl) (by kernel_rfl)

def ac19 : AC := rdc (cO Tryz.prog [14, 17] 89 Tryz.f19) _ (by conv => lhs; reduce)
def ac19_L1 : AC := rdc (lP 0 ac19) _ (by conv => lhs; reduce)
def ac19_L2 : AC := rdc (lP 1 ac19) _ (by conv => lhs; reduce)
theorem text19 : FnText Tryz.prog 19 [14, 17] 89 3 ac19 [(6, none), (7, none)] := tX Tryz.call19 follows Tryz.func19 rfl rfl (by decide) (by kernel_rfl) (by kernel_rfl)

def ac53 : AC := rdc (cO Tryz.prog [] 21 Tryz.f53) _ (by conv => lhs; reduce)
def ac53_L1 : AC := rdc (lP 0 ac53) _ (by conv => lhs; reduce)
theorem text53 : FnText Tryz.prog 53 [] 21 2 ac53 [(4, none)] := tX Tryz.call53 follows Tryz.func53 rfl rfl (by decide) (by kernel_rfl) (by kernel_rfl)

def ac54 : AC := rdc (cO Tryz.prog [4, 5, 7] 42 Tryz.f54) _ (by conv => lhs; reduce)
def ac54_L1 : AC := rdc (lP 0 ac54) _ (by conv => lhs; reduce)
theorem text54 : FnText Tryz.prog 54 [4, 5, 7] 42 2 ac54 [(4, some (2, true))] := tX Tryz.call54 follows Tryz.func54 rfl rfl (by decide) (by kernel_rfl) (by kernel_rfl)

def ac55 : AC := rdc (cO Tryz.prog [11, 14, 15] 67 Tryz.f55) _ (by conv => lhs; reduce)
def ac55_L1 : AC := rdc (lP 0 ac55) _ (by conv => lhs; reduce)
def ac55_L2 : AC := rdc (lP 1 ac55) _ (by conv => lhs; reduce)
theorem text55 : FnText Tryz.prog 55 [11, 14, 15] 67 3 ac55 [(6, none), (7, none)] := tX Tryz.call55 follows Tryz.func55 rfl rfl (by decide) (by kernel_rfl) (by kernel_rfl)

def ac100 : AC := rdc (cO Tryz.prog [8] 34 Tryz.f100) _ (by conv => lhs; reduce)
def ac100_L1 : AC := rdc (lP 0 ac100) _ (by conv => lhs; reduce)
theorem text100 : FnText Tryz.prog 100 [8] 34 2 ac100 [(4, none)] := tX Tryz.call100 follows Tryz.func100 rfl rfl (by decide) (by kernel_rfl) (by kernel_rfl)

def ac99 : AC := rdc (cO Tryz.prog [] 10 Tryz.f99) _ (by conv => lhs; reduce)
theorem text99 : FnText Tryz.prog 99 [] 10 1 ac99 [(2, none), (3, none)] := tX Tryz.call99 follows Tryz.func99 rfl rfl (by decide) (by kernel_rfl) (by kernel_rfl)

def ac124 : AC := rdc (cO Tryz.prog [5] 30 Tryz.f124) _ (by conv => lhs; reduce)
def ac124_L1 : AC := rdc (lP 0 ac124) _ (by conv => lhs; reduce)
theorem text124 : FnText Tryz.prog 124 [5] 30 1 ac124 [(2, none)] := tX Tryz.call124 follows Tryz.func124 rfl rfl (by decide) (by kernel_rfl) (by kernel_rfl)

def ac148 : AC := rdc (cO Tryz.prog [6] 39 Tryz.f148) _ (by conv => lhs; reduce)
def ac148_L1 : AC := rdc (lP 0 ac148) _ (by conv => lhs; reduce)
theorem text148 : FnText Tryz.prog 148 [6] 39 2 ac148 [(4, none)] := tX Tryz.call148 follows Tryz.func148 rfl rfl (by decide) (by kernel_rfl) (by kernel_rfl)

def ac157 : AC := rdc (cO Tryz.prog [] 22 Tryz.f157) _ (by conv => lhs; reduce)
theorem text157 : FnText Tryz.prog 157 [] 22 2 ac157 [(4, none)] := tX Tryz.call157 follows Tryz.func157 rfl rfl (by decide) (by kernel_rfl) (by kernel_rfl)

def ac101 : AC := rdc (cO Tryz.prog [3, 4, 7, 9, 11] 89 Tryz.f101) _ (by conv => lhs; reduce)
def ac101_L1 : AC := rdc (lP 0 ac101) _ (by conv => lhs; reduce)
theorem text101 : FnText Tryz.prog 101 [3, 4, 7, 9, 11] 89 3 ac101 [(6, none)] := tX Tryz.call101 follows Tryz.func101 rfl rfl (by decide) (by kernel_rfl) (by kernel_rfl)

def ac125 : AC := rdc (cO Tryz.prog [] 9 Tryz.f125) _ (by conv => lhs; reduce)
theorem text125 : FnText Tryz.prog 125 [] 9 1 ac125 [(2, none)] := tX Tryz.call125 follows Tryz.func125 rfl rfl (by decide) (by kernel_rfl) (by kernel_rfl)

def ac126 : AC := rdc (cO Tryz.prog [] 6 Tryz.f126) _ (by conv => lhs; reduce)
theorem text126 : FnText Tryz.prog 126 [] 6 1 ac126 [(2, none)] := tX Tryz.call126 follows Tryz.func126 rfl rfl (by decide) (by kernel_rfl) (by kernel_rfl)

def ac127 : AC := rdc (cO Tryz.prog [2] 11 Tryz.f127) _ (by conv => lhs; reduce)
theorem text127 : FnText Tryz.prog 127 [2] 11 1 ac127 [(2, some (2, true))] := tX Tryz.call127 follows Tryz.func127 rfl rfl (by decide) (by kernel_rfl) (by kernel_rfl)

def ac128 : AC := rdc (cO Tryz.prog [4] 36 Tryz.f128) _ (by conv => lhs; reduce)
theorem text128 : FnText Tryz.prog 128 [4] 36 2 ac128 [(4, some (2, true)), (5, none)] := tX Tryz.call128 follows Tryz.func128 rfl rfl (by decide) (by kernel_rfl) (by kernel_rfl)

def ac129 : AC := rdc (cO Tryz.prog [] 25 Tryz.f129) _ (by conv => lhs; reduce)
theorem text129 : FnText Tryz.prog 129 [] 25 1 ac129 [(2, none)] := tX Tryz.call129 follows Tryz.func129 rfl rfl (by decide) (by kernel_rfl) (by kernel_rfl)

def ac56 : AC := rdc (cO Tryz.prog [] 11 Tryz.f56) _ (by conv => lhs; reduce)
theorem text56 : FnText Tryz.prog 56 [] 11 1 ac56 [] := tX Tryz.call56 follows Tryz.func56 rfl rfl (by decide) (by kernel_rfl) (by kernel_rfl)

def ac103 : AC := rdc (cO Tryz.prog [] 8 Tryz.f103) _ (by conv => lhs; reduce)
theorem text103 : FnText Tryz.prog 103 [] 8 1 ac103 [(2, none)] := tX Tryz.call103 follows Tryz.func103 rfl rfl (by decide) (by kernel_rfl) (by kernel_rfl)

def ac139 : AC := rdc (cO Tryz.prog [] 19 Tryz.f139) _ (by conv => lhs; reduce)
theorem text139 : FnText Tryz.prog 139 [] 19 1 ac139 [(2, none)] := tX Tryz.call139 follows Tryz.func139 rfl rfl (by decide) (by kernel_rfl) (by kernel_rfl)

def ac102 : AC := rdc (cO Tryz.prog [] 134 Tryz.f102) _ (by conv => lhs; reduce)
def ac102_L1 : AC := rdc (lP 0 ac102) _ (by conv => lhs; reduce)
theorem text102 : FnText Tryz.prog 102 [] 134 4 ac102 [] := tX Tryz.call102 follows Tryz.func102 rfl rfl (by decide) (by kernel_rfl) (by kernel_rfl)

def ac130 : AC := rdc (cO Tryz.prog [] 49 Tryz.f130) _ (by conv => lhs; reduce)
def ac130_L1 : AC := rdc (lP 0 ac130) _ (by conv => lhs; reduce)
def ac130_L2 : AC := rdc (lP 1 ac130) _ (by conv => lhs; reduce)
theorem text130 : FnText Tryz.prog 130 [] 49 3 ac130 [] := tX Tryz.call130 follows Tryz.func130 rfl rfl (by decide) (by kernel_rfl) (by kernel_rfl)

def ac136 : AC := rdc (cO Tryz.prog [] 17 Tryz.f136) _ (by conv => lhs; reduce)
theorem text136 : FnText Tryz.prog 136 [] 17 2 ac136 [(4, none)] := tX Tryz.call136 follows Tryz.func136 rfl rfl (by decide) (by kernel_rfl) (by kernel_rfl)

def ac154 : AC := rdc (cO Tryz.prog [] 6 Tryz.f154) _ (by conv => lhs; reduce)
theorem text154 : FnText Tryz.prog 154 [] 6 1 ac154 [(2, none)] := tX Tryz.call154 follows Tryz.func154 rfl rfl (by decide) (by kernel_rfl) (by kernel_rfl)

def ac131 : AC := rdc (cO Tryz.prog [] 56 Tryz.f131) _ (by conv => lhs; reduce)
def ac131_L1 : AC := rdc (lP 0 ac131) _ (by conv => lhs; reduce)
def ac131_L2 : AC := rdc (lP 1 ac131) _ (by conv => lhs; reduce)
theorem text131 : FnText Tryz.prog 131 [] 56 3 ac131 [] := tX Tryz.call131 follows Tryz.func131 rfl rfl (by decide) (by kernel_rfl) (by kernel_rfl)

def ac149 : AC := rdc (cO Tryz.prog [] 76 Tryz.f149) _ (by conv => lhs; reduce)
def ac149_L1 : AC := rdc (lP 0 ac149) _ (by conv => lhs; reduce)
theorem text149 : FnText Tryz.prog 149 [] 76 4 ac149 [] := tX Tryz.call149 follows Tryz.func149 rfl rfl (by decide) (by kernel_rfl) (by kernel_rfl)

def ac132 : AC := rdc (cO Tryz.prog [7] 65 Tryz.f132) _ (by conv => lhs; reduce)
def ac132_L1 : AC := rdc (lP 0 ac132) _ (by conv => lhs; reduce)
theorem text132 : FnText Tryz.prog 132 [7] 65 3 ac132 [] := tX Tryz.call132 follows Tryz.func132 rfl rfl (by decide) (by kernel_rfl) (by kernel_rfl)

def ac150 : AC := rdc (cO Tryz.prog [] 7 Tryz.f150) _ (by conv => lhs; reduce)
theorem text150 : FnText Tryz.prog 150 [] 7 1 ac150 [(2, none)] := tX Tryz.call150 follows Tryz.func150 rfl rfl (by decide) (by kernel_rfl) (by kernel_rfl)

def ac151 : AC := rdc (cO Tryz.prog [] 33 Tryz.f151) _ (by conv => lhs; reduce)
theorem text151 : FnText Tryz.prog 151 [] 33 1 ac151 [(2, none)] := tX Tryz.call151 follows Tryz.func151 rfl rfl (by decide) (by kernel_rfl) (by kernel_rfl)

def ac133 : AC := rdc (cO Tryz.prog [9] 57 Tryz.f133) _ (by conv => lhs; reduce)
theorem text133 : FnText Tryz.prog 133 [9] 57 3 ac133 [(6, none), (7, none)] := tX Tryz.call133 follows Tryz.func133 rfl rfl (by decide) (by kernel_rfl) (by kernel_rfl)

def ac152 : AC := rdc (cO Tryz.prog [] 15 Tryz.f152) _ (by conv => lhs; reduce)
theorem text152 : FnText Tryz.prog 152 [] 15 3 ac152 [(6, none)] := tX Tryz.call152 follows Tryz.func152 rfl rfl (by decide) (by kernel_rfl) (by kernel_rfl)

def ac153 : AC := rdc (cO Tryz.prog [] 36 Tryz.f153) _ (by conv => lhs; reduce)
theorem text153 : FnText Tryz.prog 153 [] 36 5 ac153 [(10, none)] := tX Tryz.call153 follows Tryz.func153 rfl rfl (by decide) (by kernel_rfl) (by kernel_rfl)

def ac158 : AC := rdc (cO Tryz.prog [] 28 Tryz.f158) _ (by conv => lhs; reduce)
theorem text158 : FnText Tryz.prog 158 [] 28 4 ac158 [(8, none), (9, none)] := tX Tryz.call158 follows Tryz.func158 rfl rfl (by decide) (by kernel_rfl) (by kernel_rfl)

def ac134 : AC := rdc (cO Tryz.prog [] 32 Tryz.f134) _ (by conv => lhs; reduce)
def ac134_L1 : AC := rdc (lP 0 ac134) _ (by conv => lhs; reduce)
theorem text134 : FnText Tryz.prog 134 [] 32 3 ac134 [] := tX Tryz.call134 follows Tryz.func134 rfl rfl (by decide) (by kernel_rfl) (by kernel_rfl)

def ac135 : AC := rdc (cO Tryz.prog [] 133 Tryz.f135) _ (by conv => lhs; reduce)
def ac135_L1 : AC := rdc (lP 0 ac135) _ (by conv => lhs; reduce)
def ac135_L2 : AC := rdc (lP 1 ac135) _ (by conv => lhs; reduce)
def ac135_L3 : AC := rdc (lP 2 ac135) _ (by conv => lhs; reduce)
def ac135_L4 : AC := rdc (lP 3 ac135) _ (by conv => lhs; reduce)
theorem text135 : FnText Tryz.prog 135 [] 133 3 ac135 [(6, none)] := tX Tryz.call135 follows Tryz.func135 rfl rfl (by decide) (by kernel_rfl) (by kernel_rfl)

def ac137 : AC := rdc (cO Tryz.prog [] 84 Tryz.f137) _ (by conv => lhs; reduce)
def ac137_L1 : AC := rdc (lP 0 ac137) _ (by conv => lhs; reduce)
def ac137_L2 : AC := rdc (lP 1 ac137) _ (by conv => lhs; reduce)
def ac137_L3 : AC := rdc (lP 2 ac137) _ (by conv => lhs; reduce)
theorem text137 : FnText Tryz.prog 137 [] 84 4 ac137 [(8, none)] := tX Tryz.call137 follows Tryz.func137 rfl rfl (by decide) (by kernel_rfl) (by kernel_rfl)

def ac138 : AC := rdc (cO Tryz.prog [] 168 Tryz.f138) _ (by conv => lhs; reduce)
def ac138_L1 : AC := rdc (lP 0 ac138) _ (by conv => lhs; reduce)
def ac138_L2 : AC := rdc (lP 1 ac138) _ (by conv => lhs; reduce)
def ac138_L3 : AC := rdc (lP 2 ac138) _ (by conv => lhs; reduce)
def ac138_L4 : AC := rdc (lP 3 ac138) _ (by conv => lhs; reduce)
def ac138_L5 : AC := rdc (lP 4 ac138) _ (by conv => lhs; reduce)
theorem text138 : FnText Tryz.prog 138 [] 168 4 ac138 [(8, none), (9, none)] := tX Tryz.call138 follows Tryz.func138 rfl rfl (by decide) (by kernel_rfl) (by kernel_rfl)

def ac18 : AC := rdc (cO Tryz.prog [] 10 Tryz.f18) _ (by conv => lhs; reduce)
theorem text18 : FnText Tryz.prog 18 [] 10 1 ac18 [(2, none)] := tX Tryz.call18 follows Tryz.func18 rfl rfl (by decide) (by kernel_rfl) (by kernel_rfl)

def ac21 : AC := rdc (cO Tryz.prog [] 26 Tryz.f21) _ (by conv => lhs; reduce)
def ac21_L1 : AC := rdc (lP 0 ac21) _ (by conv => lhs; reduce)
theorem text21 : FnText Tryz.prog 21 [] 26 2 ac21 [(4, none)] := tX Tryz.call21 follows Tryz.func21 rfl rfl (by decide) (by kernel_rfl) (by kernel_rfl)

end Go.Proofs.YthdnpgpnodgicaaGreat
