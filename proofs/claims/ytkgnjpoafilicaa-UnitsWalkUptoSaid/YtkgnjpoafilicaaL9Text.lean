/-
  The text of each function of this seat, az0 the plain library tells it; each by the kernel's own reckoning from the program.
-/
import Derived.Test.YtkgnjpoafilicaaPbV
import Derived.Test.YtkgnjpoafilicaaRows
set_option linter.unusedVariables false
set_option maxRecDepth 100000
namespace Go.Proofs.Ytkgnjpoafilicaa
open Go Go.Pb
theorem follows : Try.prog.follows .mixedOrders = true := by kernel_rfl
def ac60 : AC := rdc (cO Try.prog [] 120 Try.f60) _ (by conv => lhs; reduce)
def ac60_L1 : AC := rdc (lP 0 ac60) _ (by conv => lhs; reduce)
def ac60_L2 : AC := rdc (lP 1 ac60) _ (by conv => lhs; reduce)
def ac60_L3 : AC := rdc (lP 2 ac60) _ (by conv => lhs; reduce)
def ac60_L4 : AC := rdc (lP 3 ac60) _ (by conv => lhs; reduce)
theorem text60 : FnText Try.prog 60 [] 120 1 ac60 [(2, none)] := tX Try.call60 follows Try.func60 rfl rfl (by decide) (by kernel_rfl) (by kernel_rfl)

def ac61 : AC := rdc (cO Try.prog [] 61 Try.f61) _ (by conv => lhs; reduce)
def ac61_L1 : AC := rdc (lP 0 ac61) _ (by conv => lhs; reduce)
theorem text61 : FnText Try.prog 61 [] 61 3 ac61 [(6, none)] := tX Try.call61 follows Try.func61 rfl rfl (by decide) (by kernel_rfl) (by kernel_rfl)

def ac28 : AC := rdc (cO Try.prog [] 93 Try.f28) _ (by conv => lhs; reduce)
def ac28_L1 : AC := rdc (lP 0 ac28) _ (by conv => lhs; reduce)
def ac28_L2 : AC := rdc (lP 1 ac28) _ (by conv => lhs; reduce)
theorem text28 : FnText Try.prog 28 [] 93 1 ac28 [(2, none)] := tX Try.call28 follows Try.func28 rfl rfl (by decide) (by kernel_rfl) (by kernel_rfl)

def ac29 : AC := rdc (cO Try.prog [] 104 Try.f29) _ (by conv => lhs; reduce)
theorem text29 : FnText Try.prog 29 [] 104 0 ac29 [(0, none)] := tX Try.call29 follows Try.func29 rfl rfl (by decide) (by kernel_rfl) (by kernel_rfl)

def ac56 : AC := rdc (cO Try.prog [] 6 Try.f56) _ (by conv => lhs; reduce)
theorem text56 : FnText Try.prog 56 [] 6 2 ac56 [(3, none)] := tX Try.call56 follows Try.func56 rfl rfl (by decide) (by kernel_rfl) (by kernel_rfl)

def ac48_G1 : List AOper :=
  [⟨(some 18), .faddr 3 1 false (.tmp 6), (some (17, false)), false⟩,
    ⟨(some 19), .load 1 false (.tmp 18), (some (17, false)), false⟩,
    ⟨(some 20), .move (.tmp 1), (some (17, false)), false⟩,
    ⟨(some 21), .call (.func 48) [(.tmp 19), (.tmp 20)], (some (17, false)), false⟩,
    ⟨(some 22), .un .not (.tmp 21), (some (17, false)), false⟩,
    ⟨(some 23), .pick (.tmp 17) (.const (.bool true)) (.tmp 22), none, false⟩]
def ac48_G2 : List AOper :=
  [⟨(some 25), .faddr 4 1 false (.tmp 6), (some (24, false)), false⟩,
    ⟨(some 26), .load 1 false (.tmp 25), (some (24, false)), false⟩,
    ⟨(some 27), .move (.tmp 1), (some (24, false)), false⟩,
    ⟨(some 28), .call (.func 48) [(.tmp 26), (.tmp 27)], (some (24, false)), false⟩,
    ⟨(some 29), .un .not (.tmp 28), (some (24, false)), false⟩,
    ⟨(some 30), .pick (.tmp 24) (.const (.bool true)) (.tmp 29), none, false⟩]
def ac48_L1 : AC :=
  .seq (.region false [⟨(some 10), .bin .lss 3 (.tmp 9) (.tmp 8), none, false⟩])
    (.seq (.cond (.tmp 10)
        (.skip)
        (.exit 0))
      (.seq (.block 1 (.seq (.region false [⟨(some 11), .iaddr 5 (.tmp 7) (.tmp 9), none, false⟩,
                ⟨(some 12), .load 5 true (.tmp 11), none, false⟩,
                ⟨(some 6), .alloc true 40 (.agg [(.int .i64 0), (.int .i64 0), (.slice none 0 0), (.slice none 0 0), (.slice none 0 0)].toArray), none, false⟩,
                ⟨none, .store 5 (.tmp 6) (.tmp 12), none, false⟩])
            (.seq (.region false (⟨(some 13), .move (.tmp 1), none, false⟩ :: ⟨(some 14), .load 5 true (.tmp 6), none, false⟩ :: ⟨(some 15), .call (.tmp 13) [(.tmp 14)], none, false⟩ :: ⟨(some 16), .un .not (.tmp 15), none, false⟩ :: ⟨(some 17), .move (.tmp 16), none, false⟩ :: (ac48_G1 ++ (⟨(some 24), .move (.tmp 23), none, false⟩ :: (ac48_G2 ++ [])))))
              (.cond (.tmp 30)
                (.seq (.region false [⟨(some 4), .move (.const (.bool false)), none, false⟩])
                  (.ret))
                (.skip)))))
        (.region false [⟨(some 31), .bin .add 3 (.tmp 9) (.const (.int .i64 1)), none, false⟩,
            ⟨(some 9), .move (.tmp 31), none, false⟩])))
/-- patchbay/control.preorder -/
def ac48 : AC :=
  .seq (.region false [⟨(some 4), .move (.const (.bool false)), none, false⟩])
    (.seq (.seq (.region false [⟨(some 7), .move (.tmp 0), none, false⟩,
            ⟨(some 8), .bi .len [28].toArray 3 [(.tmp 7)], none, false⟩,
            ⟨(some 9), .move (.const (.int .i64 0)), none, false⟩])
        (.block 0 (.loop ac48_L1)))
      (.seq (.region false [⟨(some 4), .move (.const (.bool true)), none, false⟩])
        (.ret)))
theorem text48 : FnText Try.prog 48 [6] 32 2 ac48 [(4, none)] :=
  ⟨Try.call48, follows, Try.f48, _, Try.func48, rfl, rfl, by decide, by kernel_rfl, by kernel_rfl⟩

def ac20 : AC := rdc (cO Try.prog [3] 8 Try.f20) _ (by conv => lhs; reduce)
theorem text20 : FnText Try.prog 20 [3] 8 1 ac20 [(2, none)] := tX Try.call20 follows Try.func20 rfl rfl (by decide) (by kernel_rfl) (by kernel_rfl)

def ac22 : AC := rdc (cO Try.prog [5] 26 Try.f22) _ (by conv => lhs; reduce)
def ac22_L1 : AC := rdc (lP 0 ac22) _ (by conv => lhs; reduce)
theorem text22 : FnText Try.prog 22 [5] 26 1 ac22 [(2, none)] := tX Try.call22 follows Try.func22 rfl rfl (by decide) (by kernel_rfl) (by kernel_rfl)

def ac86 : AC := rdc (cO Try.prog [] 25 Try.f86) _ (by conv => lhs; reduce)
theorem text86 : FnText Try.prog 86 [] 25 1 ac86 [(2, none)] := tX Try.call86 follows Try.func86 rfl rfl (by decide) (by kernel_rfl) (by kernel_rfl)

def ac92 : AC := rdc (cO Try.prog [] 11 Try.f92) _ (by conv => lhs; reduce)
theorem text92 : FnText Try.prog 92 [] 11 1 ac92 [(2, none), (3, none)] := tX Try.call92 follows Try.func92 rfl rfl (by decide) (by kernel_rfl) (by kernel_rfl)

def ac98 : AC := rdc (cO Try.prog [] 18 Try.f98) _ (by conv => lhs; reduce)
def ac98_L1 : AC := rdc (lP 0 ac98) _ (by conv => lhs; reduce)
theorem text98 : FnText Try.prog 98 [] 18 1 ac98 [(2, none)] := tX Try.call98 follows Try.func98 rfl rfl (by decide) (by kernel_rfl) (by kernel_rfl)

def ac93 : AC := rdc (cO Try.prog [] 10 Try.f93) _ (by conv => lhs; reduce)
theorem text93 : FnText Try.prog 93 [] 10 1 ac93 [(2, none)] := tX Try.call93 follows Try.func93 rfl rfl (by decide) (by kernel_rfl) (by kernel_rfl)

def ac94 : AC := rdc (cO Try.prog [6] 45 Try.f94) _ (by conv => lhs; reduce)
theorem text94 : FnText Try.prog 94 [6] 45 3 ac94 [(6, some (2, true)), (7, none)] := tX Try.call94 follows Try.func94 rfl rfl (by decide) (by kernel_rfl) (by kernel_rfl)

def ac87 : AC := rdc (cO Try.prog [8] 90 Try.f87) _ (by conv => lhs; reduce)
theorem text87 : FnText Try.prog 87 [8] 90 2 ac87 [(4, none), (5, none)] := tX Try.call87 follows Try.func87 rfl rfl (by decide) (by kernel_rfl) (by kernel_rfl)

def ac88 : AC := rdc (cO Try.prog [] 91 Try.f88) _ (by conv => lhs; reduce)
theorem text88 : FnText Try.prog 88 [] 91 2 ac88 [(4, none), (5, none)] := tX Try.call88 follows Try.func88 rfl rfl (by decide) (by kernel_rfl) (by kernel_rfl)

def ac84 : AC := rdc (cO Try.prog [10] 73 Try.f84) _ (by conv => lhs; reduce)
def ac84_L1 : AC := rdc (lP 0 ac84) _ (by conv => lhs; reduce)
theorem text84 : FnText Try.prog 84 [10] 73 3 ac84 [(6, none), (7, none), (8, none)] := tX Try.call84 follows Try.func84 rfl rfl (by decide) (by kernel_rfl) (by kernel_rfl)

def ac75 : AC := rdc (cO Try.prog [] 27 Try.f75) _ (by conv => lhs; reduce)
theorem text75 : FnText Try.prog 75 [] 27 2 ac75 [(4, none), (5, none)] := tX Try.call75 follows Try.func75 rfl rfl (by decide) (by kernel_rfl) (by kernel_rfl)

def ac50 : AC := rdc (cO Try.prog [] 66 Try.f50) _ (by conv => lhs; reduce)
def ac50_L1 : AC := rdc (lP 0 ac50) _ (by conv => lhs; reduce)
theorem text50 : FnText Try.prog 50 [] 66 3 ac50 [(6, none)] := tX Try.call50 follows Try.func50 rfl rfl (by decide) (by kernel_rfl) (by kernel_rfl)

def ac51 : AC := rdc (cO Try.prog [] 11 Try.f51) _ (by conv => lhs; reduce)
theorem text51 : FnText Try.prog 51 [] 11 1 ac51 [(2, none)] := tX Try.call51 follows Try.func51 rfl rfl (by decide) (by kernel_rfl) (by kernel_rfl)

def ac49 : AC := rdc (cO Try.prog [] 22 Try.f49) _ (by conv => lhs; reduce)
theorem text49 : FnText Try.prog 49 [] 22 5 ac49 [(6, none)] := tX Try.call49 follows Try.func49 rfl rfl (by decide) (by kernel_rfl) (by kernel_rfl)

def ac16 : AC := rdc (cO Try.prog [3, 4, 5] 22 Try.f16) _ (by conv => lhs; reduce)
theorem text16 : FnText Try.prog 16 [3, 4, 5] 22 1 ac16 [(2, none), (3, some (1, false))] := tX Try.call16 follows Try.func16 rfl rfl (by decide) (by kernel_rfl) (by kernel_rfl)


/-- slices.Clone[[]patchbay/api.Guard,patchbay/api.Guard] -/
def ac64 : AC :=
  .seq (.region false [⟨(some 2), .move (.const (.slice none 0 0)), none, false⟩])
    (.seq (.seq (.region false [⟨(some 3), .move (.tmp 0), none, false⟩,
            ⟨(some 4), .bin .eql 56 (.tmp 3) (.const (.slice none 0 0)), none, false⟩])
        (.cond (.tmp 4)
          (.seq (.region false [⟨(some 2), .move (.const (.slice none 0 0)), none, false⟩])
            (.ret))
          (.skip)))
      (.seq (.region false [⟨(some 5), .bslice false 60 2 false [], none, false⟩,
            ⟨(some 6), .move (.tmp 0), none, false⟩,
            ⟨(some 7), .append 56 60 2 16 (.tmp 5) (.tmp 6), none, false⟩,
            ⟨(some 2), .move (.tmp 7), none, false⟩])
        (.ret)))
theorem text64 : FnText Try.prog 64 [] 8 1 ac64 [(2, none)] :=
  ⟨Try.call64, follows, Try.f64, _, Try.func64, rfl, rfl, by decide, by kernel_rfl, by kernel_rfl⟩


/-- slices.Clone[[]patchbay/api.ExprNode,patchbay/api.ExprNode] -/
def ac65 : AC :=
  .seq (.region false [⟨(some 2), .move (.const (.slice none 0 0)), none, false⟩])
    (.seq (.seq (.region false [⟨(some 3), .move (.tmp 0), none, false⟩,
            ⟨(some 4), .bin .eql 38 (.tmp 3) (.const (.slice none 0 0)), none, false⟩])
        (.cond (.tmp 4)
          (.seq (.region false [⟨(some 2), .move (.const (.slice none 0 0)), none, false⟩])
            (.ret))
          (.skip)))
      (.seq (.region false [⟨(some 5), .bslice false 106 3 false [], none, false⟩,
            ⟨(some 6), .move (.tmp 0), none, false⟩,
            ⟨(some 7), .append 38 106 3 24 (.tmp 5) (.tmp 6), none, false⟩,
            ⟨(some 2), .move (.tmp 7), none, false⟩])
        (.ret)))
theorem text65 : FnText Try.prog 65 [] 8 1 ac65 [(2, none)] :=
  ⟨Try.call65, follows, Try.f65, _, Try.func65, rfl, rfl, by decide, by kernel_rfl, by kernel_rfl⟩

def ac66 : AC := rdc (cO Try.prog [1000000] 12 Try.f66) _ (by conv => lhs; reduce)
theorem text66 : FnText Try.prog 66 [1000000] 12 3 ac66 [(4, none)] := tX Try.call66 follows Try.func66 rfl rfl (by decide) (by kernel_rfl) (by kernel_rfl)

def ac63 : AC := rdc (cO Try.prog [7, 8, 9] 50 Try.f63) _ (by conv => lhs; reduce)
def ac63_L1 : AC := rdc (lP 0 ac63) _ (by conv => lhs; reduce)
theorem text63 : FnText Try.prog 63 [7, 8, 9] 50 4 ac63 [] := tX Try.call63 follows Try.func63 rfl rfl (by decide) (by kernel_rfl) (by kernel_rfl)

def ac31 : AC := rdc (cO Try.prog [5, 6] 20 Try.f31) _ (by conv => lhs; reduce)
theorem text31 : FnText Try.prog 31 [5, 6] 20 1 ac31 [(2, none)] := tX Try.call31 follows Try.func31 rfl rfl (by decide) (by kernel_rfl) (by kernel_rfl)

def ac21 : AC := rdc (cO Try.prog [] 28 Try.f21) _ (by conv => lhs; reduce)
def ac21_L1 : AC := rdc (lP 0 ac21) _ (by conv => lhs; reduce)
theorem text21 : FnText Try.prog 21 [] 28 1 ac21 [(2, none)] := tX Try.call21 follows Try.func21 rfl rfl (by decide) (by kernel_rfl) (by kernel_rfl)

def ac23 : AC := rdc (cO Try.prog [] 28 Try.f23) _ (by conv => lhs; reduce)
def ac23_L1 : AC := rdc (lP 0 ac23) _ (by conv => lhs; reduce)
theorem text23 : FnText Try.prog 23 [] 28 1 ac23 [(2, none)] := tX Try.call23 follows Try.func23 rfl rfl (by decide) (by kernel_rfl) (by kernel_rfl)

def ac52 : AC := rdc (cO Try.prog [] 35 Try.f52) _ (by conv => lhs; reduce)
def ac52_L1 : AC := rdc (lP 0 ac52) _ (by conv => lhs; reduce)
theorem text52 : FnText Try.prog 52 [] 35 1 ac52 [(2, none)] := tX Try.call52 follows Try.func52 rfl rfl (by decide) (by kernel_rfl) (by kernel_rfl)

def ac89 : AC := rdc (cO Try.prog [] 27 Try.f89) _ (by conv => lhs; reduce)
theorem text89 : FnText Try.prog 89 [] 27 1 ac89 [(2, none)] := tX Try.call89 follows Try.func89 rfl rfl (by decide) (by kernel_rfl) (by kernel_rfl)

def ac95 : AC := rdc (cO Try.prog [] 11 Try.f95) _ (by conv => lhs; reduce)
theorem text95 : FnText Try.prog 95 [] 11 1 ac95 [(2, none), (3, none)] := tX Try.call95 follows Try.func95 rfl rfl (by decide) (by kernel_rfl) (by kernel_rfl)

def ac99 : AC := rdc (cO Try.prog [] 9 Try.f99) _ (by conv => lhs; reduce)
theorem text99 : FnText Try.prog 99 [] 9 1 ac99 [(2, none)] := tX Try.call99 follows Try.func99 rfl rfl (by decide) (by kernel_rfl) (by kernel_rfl)

def ac100 : AC := rdc (cO Try.prog [] 13 Try.f100) _ (by conv => lhs; reduce)
def ac100_L1 : AC := rdc (lP 0 ac100) _ (by conv => lhs; reduce)
theorem text100 : FnText Try.prog 100 [] 13 1 ac100 [(2, none)] := tX Try.call100 follows Try.func100 rfl rfl (by decide) (by kernel_rfl) (by kernel_rfl)

def ac96 : AC := rdc (cO Try.prog [] 10 Try.f96) _ (by conv => lhs; reduce)
theorem text96 : FnText Try.prog 96 [] 10 1 ac96 [(2, none)] := tX Try.call96 follows Try.func96 rfl rfl (by decide) (by kernel_rfl) (by kernel_rfl)

def ac97 : AC := rdc (cO Try.prog [] 46 Try.f97) _ (by conv => lhs; reduce)
theorem text97 : FnText Try.prog 97 [] 46 2 ac97 [(4, none), (5, none)] := tX Try.call97 follows Try.func97 rfl rfl (by decide) (by kernel_rfl) (by kernel_rfl)

def ac90 : AC := rdc (cO Try.prog [] 91 Try.f90) _ (by conv => lhs; reduce)
theorem text90 : FnText Try.prog 90 [] 91 2 ac90 [(4, none), (5, none)] := tX Try.call90 follows Try.func90 rfl rfl (by decide) (by kernel_rfl) (by kernel_rfl)

def ac91 : AC := rdc (cO Try.prog [] 105 Try.f91) _ (by conv => lhs; reduce)
theorem text91 : FnText Try.prog 91 [] 105 2 ac91 [(4, none), (5, none)] := tX Try.call91 follows Try.func91 rfl rfl (by decide) (by kernel_rfl) (by kernel_rfl)

def ac85 : AC := rdc (cO Try.prog [] 85 Try.f85) _ (by conv => lhs; reduce)
def ac85_L1 : AC := rdc (lP 0 ac85) _ (by conv => lhs; reduce)
theorem text85 : FnText Try.prog 85 [] 85 3 ac85 [(6, none), (7, none), (8, none)] := tX Try.call85 follows Try.func85 rfl rfl (by decide) (by kernel_rfl) (by kernel_rfl)

def ac76 : AC := rdc (cO Try.prog [] 29 Try.f76) _ (by conv => lhs; reduce)
theorem text76 : FnText Try.prog 76 [] 29 2 ac76 [(4, none), (5, none)] := tX Try.call76 follows Try.func76 rfl rfl (by decide) (by kernel_rfl) (by kernel_rfl)

def ac58 : AC := rdc (cO Try.prog [] 11 Try.f58) _ (by conv => lhs; reduce)
theorem text58 : FnText Try.prog 58 [] 11 1 ac58 [(2, none)] := tX Try.call58 follows Try.func58 rfl rfl (by decide) (by kernel_rfl) (by kernel_rfl)

def ac77 : AC := rdc (cO Try.prog [] 29 Try.f77) _ (by conv => lhs; reduce)
def ac77_L1 : AC := rdc (lP 0 ac77) _ (by conv => lhs; reduce)
theorem text77 : FnText Try.prog 77 [] 29 2 ac77 [(4, none)] := tX Try.call77 follows Try.func77 rfl rfl (by decide) (by kernel_rfl) (by kernel_rfl)

def ac53 : AC := rdc (cO Try.prog [7] 72 Try.f53) _ (by conv => lhs; reduce)
theorem text53 : FnText Try.prog 53 [7] 72 3 ac53 [(6, none)] := tX Try.call53 follows Try.func53 rfl rfl (by decide) (by kernel_rfl) (by kernel_rfl)

def ac17 : AC := rdc (cO Try.prog [] 34 Try.f17) _ (by conv => lhs; reduce)
def ac17_L1 : AC := rdc (lP 0 ac17) _ (by conv => lhs; reduce)
theorem text17 : FnText Try.prog 17 [] 34 1 ac17 [(2, none), (3, none)] := tX Try.call17 follows Try.func17 rfl rfl (by decide) (by kernel_rfl) (by kernel_rfl)

def ac80 : AC := rdc (cO Try.prog [] 17 Try.f80) _ (by conv => lhs; reduce)
theorem text80 : FnText Try.prog 80 [] 17 3 ac80 [(6, none)] := tX Try.call80 follows Try.func80 rfl rfl (by decide) (by kernel_rfl) (by kernel_rfl)

def ac67 : AC := rdc (cO Try.prog [8, 1000000] 63 Try.f67) _ (by conv => lhs; reduce)
def ac67_L1 : AC := rdc (lP 0 ac67) _ (by conv => lhs; reduce)
theorem text67 : FnText Try.prog 67 [8, 1000000] 63 3 ac67 [(6, none)] := tX Try.call67 follows Try.func67 rfl rfl (by decide) (by kernel_rfl) (by kernel_rfl)

def ac32 : AC := rdc (cO Try.prog [] 15 Try.f32) _ (by conv => lhs; reduce)
theorem text32 : FnText Try.prog 32 [] 15 1 ac32 [(2, none)] := tX Try.call32 follows Try.func32 rfl rfl (by decide) (by kernel_rfl) (by kernel_rfl)

def ac79 : AC := rdc (cO Try.prog [2] 23 Try.f79) _ (by conv => lhs; reduce)
theorem text79 : FnText Try.prog 79 [2] 23 1 ac79 [(2, some (3, true))] := tX Try.call79 follows Try.func79 rfl rfl (by decide) (by kernel_rfl) (by kernel_rfl)

def ac59 : AC := rdc (cO Try.prog [] 28 Try.f59) _ (by conv => lhs; reduce)
def ac59_L1 : AC := rdc (lP 0 ac59) _ (by conv => lhs; reduce)
theorem text59 : FnText Try.prog 59 [] 28 2 ac59 [(4, none)] := tX Try.call59 follows Try.func59 rfl rfl (by decide) (by kernel_rfl) (by kernel_rfl)

def ac30 : AC := rdc (cO Try.prog [] 85 Try.f30) _ (by conv => lhs; reduce)
def ac30_L1 : AC := rdc (lP 0 ac30) _ (by conv => lhs; reduce)
def ac30_L2 : AC := rdc (lP 1 ac30) _ (by conv => lhs; reduce)
theorem text30 : FnText Try.prog 30 [] 85 2 ac30 [(4, none)] := tX Try.call30 follows Try.func30 rfl rfl (by decide) (by kernel_rfl) (by kernel_rfl)

def ac5 : AC := rdc (cO Try.prog [] 15 Try.f5) _ (by conv => lhs; reduce)
theorem text5 : FnText Try.prog 5 [] 15 1 ac5 [(2, none)] := tX Try.call5 follows Try.func5 rfl rfl (by decide) (by kernel_rfl) (by kernel_rfl)

def ac38_G1 : List AOper :=
  [⟨(some 31), .move (.tmp 2), (some (30, true)), false⟩,
    ⟨(some 32), .move (.tmp 13), (some (30, true)), false⟩,
    ⟨(some 33), .iaddr 1 (.tmp 31) (.tmp 32), (some (30, true)), false⟩,
    ⟨(some 34), .load 1 false (.tmp 33), (some (30, true)), false⟩,
    ⟨(some 35), .pick (.tmp 30) (.tmp 34) (.const (.bool false)), none, false⟩]
def ac38_G2 : List AOper :=
  [⟨(some 48), .move (.tmp 14), (some (47, true)), false⟩,
    ⟨(some 49), .pick (.tmp 47) (.tmp 48) (.const (.bool false)), none, false⟩]
def ac38_G3 : List AOper :=
  [⟨(some 64), .move (.tmp 14), (some (63, true)), false⟩,
    ⟨(some 65), .un .not (.tmp 64), (some (63, true)), false⟩,
    ⟨(some 66), .pick (.tmp 63) (.tmp 65) (.const (.bool false)), none, false⟩]
def ac38_L1 : AC :=
  .seq (.seq (.region false [⟨(some 15), .move (.tmp 12), none, false⟩,
          ⟨(some 16), .move (.tmp 1), none, false⟩,
          ⟨(some 17), .bi .len [28].toArray 3 [(.tmp 16)], none, false⟩,
          ⟨(some 18), .bin .lss 3 (.tmp 15) (.tmp 17), none, false⟩])
      (.cond (.tmp 18)
        (.skip)
        (.exit 0)))
    (.seq (.block 1 (.seq (.region false [⟨(some 21), .move (.tmp 3), none, false⟩,
              ⟨(some 13), .move (.tmp 21), none, false⟩])
          (.seq (.region false [⟨(some 22), .move (.tmp 0), none, false⟩,
                ⟨(some 23), .move (.tmp 4), none, false⟩,
                ⟨(some 24), .bslice false 4 1 false [(.tmp 23)], none, false⟩,
                ⟨(some 25), .append 50 4 1 1 (.tmp 22) (.tmp 24), none, false⟩,
                ⟨(some 0), .move (.tmp 25), none, false⟩])
            (.seq (.region false (⟨(some 26), .move (.tmp 13), none, false⟩ :: ⟨(some 27), .move (.tmp 2), none, false⟩ :: ⟨(some 28), .bi .len [50].toArray 3 [(.tmp 27)], none, false⟩ :: ⟨(some 29), .bin .lss 3 (.tmp 26) (.tmp 28), none, false⟩ :: ⟨(some 30), .move (.tmp 29), none, false⟩ :: (ac38_G1 ++ [⟨(some 14), .move (.tmp 35), none, false⟩])))
              (.seq (.region false (⟨(some 37), .move (.tmp 0), none, false⟩ :: ⟨(some 38), .move (.tmp 1), none, false⟩ :: ⟨(some 39), .move (.tmp 12), none, false⟩ :: ⟨(some 40), .iaddr 5 (.tmp 38) (.tmp 39), none, false⟩ :: ⟨(some 41), .faddr 3 1 false (.tmp 40), none, false⟩ :: ⟨(some 42), .load 1 false (.tmp 41), none, false⟩ :: ⟨(some 43), .move (.tmp 2), none, false⟩ :: ⟨(some 44), .move (.tmp 3), none, false⟩ :: ⟨(some 45), .bin .add 3 (.tmp 44) (.const (.int .i64 1)), none, false⟩ :: ⟨(some 46), .move (.tmp 4), none, false⟩ :: ⟨(some 47), .move (.tmp 46), none, false⟩ :: (ac38_G2 ++ [⟨(some 50), .call (.func 38) [(.tmp 37), (.tmp 42), (.tmp 43), (.tmp 45), (.tmp 49)], none, false⟩,
                    ⟨(some 36), .move (.tmp 50), none, false⟩,
                    ⟨(some 51), .extract (.tmp 36) 0, none, false⟩,
                    ⟨(some 52), .extract (.tmp 36) 1, none, false⟩,
                    ⟨(some 0), .move (.tmp 51), none, false⟩,
                    ⟨(some 3), .move (.tmp 52), none, false⟩])))
                (.region false (⟨(some 54), .move (.tmp 0), none, false⟩ :: ⟨(some 55), .move (.tmp 1), none, false⟩ :: ⟨(some 56), .move (.tmp 12), none, false⟩ :: ⟨(some 57), .iaddr 5 (.tmp 55) (.tmp 56), none, false⟩ :: ⟨(some 58), .faddr 4 1 false (.tmp 57), none, false⟩ :: ⟨(some 59), .load 1 false (.tmp 58), none, false⟩ :: ⟨(some 60), .move (.tmp 2), none, false⟩ :: ⟨(some 61), .move (.tmp 3), none, false⟩ :: ⟨(some 62), .move (.tmp 4), none, false⟩ :: ⟨(some 63), .move (.tmp 62), none, false⟩ :: (ac38_G3 ++ [⟨(some 67), .call (.func 38) [(.tmp 54), (.tmp 59), (.tmp 60), (.tmp 61), (.tmp 66)], none, false⟩,
                    ⟨(some 53), .move (.tmp 67), none, false⟩,
                    ⟨(some 68), .extract (.tmp 53) 0, none, false⟩,
                    ⟨(some 69), .extract (.tmp 53) 1, none, false⟩,
                    ⟨(some 0), .move (.tmp 68), none, false⟩,
                    ⟨(some 3), .move (.tmp 69), none, false⟩]))))))))
      (.region false [⟨(some 19), .move (.tmp 12), none, false⟩,
          ⟨(some 20), .bin .add 3 (.tmp 19) (.const (.int .i64 1)), none, false⟩,
          ⟨(some 12), .move (.tmp 20), none, false⟩]))
/-- patchbay/patchbaylaw32.visit -/
def ac38 : AC :=
  .seq (.region false [⟨(some 10), .move (.const (.slice none 0 0)), none, false⟩,
        ⟨(some 11), .move (.const (.int .i64 0)), none, false⟩])
    (.seq (.seq (.region false [⟨(some 12), .move (.const (.int .i64 0)), none, false⟩])
        (.block 0 (.loop ac38_L1)))
      (.seq (.region false [⟨(some 70), .move (.tmp 0), none, false⟩,
            ⟨(some 71), .move (.tmp 3), none, false⟩,
            ⟨(some 10), .move (.tmp 70), none, false⟩,
            ⟨(some 11), .move (.tmp 71), none, false⟩])
        (.ret)))
theorem text38 : FnText Try.prog 38 [] 72 5 ac38 [(10, none), (11, none)] :=
  ⟨Try.call38, follows, Try.f38, _, Try.func38, rfl, rfl, by decide, by kernel_rfl, by kernel_rfl⟩

def ac34 : AC := rdc (cO Try.prog [8] 48 Try.f34) _ (by conv => lhs; reduce)
def ac34_L1 : AC := rdc (lP 0 ac34) _ (by conv => lhs; reduce)
theorem text34 : FnText Try.prog 34 [8] 48 3 ac34 [(6, none)] := tX Try.call34 follows Try.func34 rfl rfl (by decide) (by kernel_rfl) (by kernel_rfl)

def ac9 : AC := rdc (cO Try.prog [] 51 Try.f9) _ (by conv => lhs; reduce)
def ac9_L1 : AC := rdc (lP 0 ac9) _ (by conv => lhs; reduce)
theorem text9 : FnText Try.prog 9 [] 51 2 ac9 [(4, none)] := tX Try.call9 follows Try.func9 rfl rfl (by decide) (by kernel_rfl) (by kernel_rfl)

def ac62 : AC := rdc (cO Try.prog [0] 17 Try.f62) _ (by conv => lhs; reduce)
theorem text62 : FnText Try.prog 62 [0] 17 0 ac62 [(0, some (9, true))] := tX Try.call62 follows Try.func62 rfl rfl (by decide) (by kernel_rfl) (by kernel_rfl)

def ac36 : AC := rdc (cO Try.prog [] 32 Try.f36) _ (by conv => lhs; reduce)
theorem text36 : FnText Try.prog 36 [] 32 3 ac36 [(6, none)] := tX Try.call36 follows Try.func36 rfl rfl (by decide) (by kernel_rfl) (by kernel_rfl)

def ac69 : AC := rdc (cO Try.prog [] 17 Try.f69) _ (by conv => lhs; reduce)
theorem text69 : FnText Try.prog 69 [] 17 3 ac69 [(4, none)] := tX Try.call69 follows Try.func69 rfl rfl (by decide) (by kernel_rfl) (by kernel_rfl)

def ac70 : AC := rdc (cO Try.prog [] 9 Try.f70) _ (by conv => lhs; reduce)
theorem text70 : FnText Try.prog 70 [] 9 2 ac70 [(4, none)] := tX Try.call70 follows Try.func70 rfl rfl (by decide) (by kernel_rfl) (by kernel_rfl)

def ac82 : AC := rdc (cO Try.prog [] 19 Try.f82) _ (by conv => lhs; reduce)
def ac82_L1 : AC := rdc (lP 0 ac82) _ (by conv => lhs; reduce)
theorem text82 : FnText Try.prog 82 [] 19 2 ac82 [(4, none)] := tX Try.call82 follows Try.func82 rfl rfl (by decide) (by kernel_rfl) (by kernel_rfl)

def ac68 : AC := rdc (cO Try.prog [] 9 Try.f68) _ (by conv => lhs; reduce)
theorem text68 : FnText Try.prog 68 [] 9 2 ac68 [(4, none)] := tX Try.call68 follows Try.func68 rfl rfl (by decide) (by kernel_rfl) (by kernel_rfl)

def ac81 : AC := rdc (cO Try.prog [] 19 Try.f81) _ (by conv => lhs; reduce)
def ac81_L1 : AC := rdc (lP 0 ac81) _ (by conv => lhs; reduce)
theorem text81 : FnText Try.prog 81 [] 19 2 ac81 [(4, none)] := tX Try.call81 follows Try.func81 rfl rfl (by decide) (by kernel_rfl) (by kernel_rfl)

end Go.Proofs.Ytkgnjpoafilicaa
