/-
  The text of each function of this seat, as the plain library tells it; each by the kernel's own reckoning from the program.
-/
import Derived.Test.YtpdimhpjehfjeaaPbV
import Derived.Test.YtpdimhpjehfjeaaRows
set_option linter.unusedVariables false
set_option maxRecDepth 100000
namespace Go.Proofs.Ytpdimhpjehfjeaa
open Go Go.Pb
theorem follows : Try.prog.follows .mixedOrders = true := by kernel_rfl
def ac13 : AC := rdc (cO Try.prog [] 19 Try.f13) _ (by conv => lhs; reduce)
def ac13_L1 : AC := rdc (lP 0 ac13) _ (by conv => lhs; reduce)
theorem text13 : FnText Try.prog 13 [] 19 1 ac13 [(2, none)] := tX Try.call13 follows Try.func13 rfl rfl (by decide) (by kernel_rfl) (by kernel_rfl)

def ac33 : AC := rdc (cO Try.prog [] 13 Try.f33) _ (by conv => lhs; reduce)
theorem text33 : FnText Try.prog 33 [] 13 2 ac33 [(4, none)] := tX Try.call33 follows Try.func33 rfl rfl (by decide) (by kernel_rfl) (by kernel_rfl)

def ac44 : AC := rdc (cO Try.prog [] 11 Try.f44) _ (by conv => lhs; reduce)
theorem text44 : FnText Try.prog 44 [] 11 1 ac44 [] := tX Try.call44 follows Try.func44 rfl rfl (by decide) (by kernel_rfl) (by kernel_rfl)

def ac45_L2 : AC :=
  .seq (.seq (.region false [⟨(some 29), .move (.tmp 5), none, false⟩,
          ⟨(some 30), .move (.tmp 4), none, false⟩,
          ⟨(some 31), .bi .len [31].toArray 3 [(.tmp 30)], none, false⟩,
          ⟨(some 32), .bin .lss 3 (.tmp 29) (.tmp 31), none, false⟩])
      (.cond (.tmp 32)
        (.skip)
        (.exit 2)))
    (.seq (.block 3 (.seq (.region true [⟨(some 35), .move (.tmp 4), none, false⟩,
              ⟨(some 36), .move (.tmp 5), none, false⟩,
              ⟨(some 37), .iaddr 1 (.tmp 35) (.tmp 36), none, false⟩,
              ⟨(some 38), .load 1 false (.tmp 37), none, false⟩,
              ⟨(some 39), .move (.tmp 4), none, false⟩,
              ⟨(some 40), .move (.tmp 5), none, false⟩,
              ⟨(some 41), .bin .sub 3 (.tmp 40) (.const (.int .i64 1)), none, false⟩,
              ⟨(some 42), .iaddr 1 (.tmp 39) (.tmp 41), none, false⟩,
              ⟨(some 43), .load 1 false (.tmp 42), none, false⟩,
              ⟨(some 44), .bin .neq 3 (.tmp 38) (.tmp 43), none, false⟩])
          (.cond (.tmp 44)
            (.seq (.region false [⟨(some 45), .move (.tmp 0), none, false⟩,
                  ⟨(some 46), .move (.tmp 3), none, false⟩,
                  ⟨(some 47), .move (.tmp 4), none, false⟩,
                  ⟨(some 48), .move (.tmp 5), none, false⟩,
                  ⟨(some 49), .iaddr 1 (.tmp 47) (.tmp 48), none, false⟩,
                  ⟨(some 50), .load 1 false (.tmp 49), none, false⟩,
                  ⟨(some 51), .iaddr 1 (.tmp 45) (.tmp 46), none, false⟩,
                  ⟨none, .store 1 (.tmp 51) (.tmp 50), none, false⟩])
              (.region false [⟨(some 52), .move (.tmp 3), none, false⟩,
                  ⟨(some 53), .bin .add 3 (.tmp 52) (.const (.int .i64 1)), none, false⟩,
                  ⟨(some 3), .move (.tmp 53), none, false⟩]))
            (.skip))))
      (.region false [⟨(some 33), .move (.tmp 5), none, false⟩,
          ⟨(some 34), .bin .add 3 (.tmp 33) (.const (.int .i64 1)), none, false⟩,
          ⟨(some 5), .move (.tmp 34), none, false⟩]))
def ac45_L1 : AC :=
  .seq (.seq (.region false [⟨(some 10), .move (.tmp 3), none, false⟩,
          ⟨(some 11), .move (.tmp 0), none, false⟩,
          ⟨(some 12), .bi .len [31].toArray 3 [(.tmp 11)], none, false⟩,
          ⟨(some 13), .bin .lss 3 (.tmp 10) (.tmp 12), none, false⟩])
      (.cond (.tmp 13)
        (.skip)
        (.exit 0)))
    (.seq (.block 1 (.seq (.region true [⟨(some 16), .move (.tmp 0), none, false⟩,
              ⟨(some 17), .move (.tmp 3), none, false⟩,
              ⟨(some 18), .iaddr 1 (.tmp 16) (.tmp 17), none, false⟩,
              ⟨(some 19), .load 1 false (.tmp 18), none, false⟩,
              ⟨(some 20), .move (.tmp 0), none, false⟩,
              ⟨(some 21), .move (.tmp 3), none, false⟩,
              ⟨(some 22), .bin .sub 3 (.tmp 21) (.const (.int .i64 1)), none, false⟩,
              ⟨(some 23), .iaddr 1 (.tmp 20) (.tmp 22), none, false⟩,
              ⟨(some 24), .load 1 false (.tmp 23), none, false⟩,
              ⟨(some 25), .bin .eql 3 (.tmp 19) (.tmp 24), none, false⟩])
          (.cond (.tmp 25)
            (.seq (.region false [⟨(some 26), .move (.tmp 0), none, false⟩,
                  ⟨(some 27), .move (.tmp 3), none, false⟩,
                  ⟨(some 28), .slice 31 1 (.tmp 26) (some (.tmp 27)) none none, none, false⟩,
                  ⟨(some 4), .move (.tmp 28), none, false⟩])
              (.seq (.seq (.region false [⟨(some 5), .move (.const (.int .i64 1)), none, false⟩])
                  (.block 2 (.loop ac45_L2)))
                (.seq (.region false [⟨(some 54), .move (.tmp 0), none, false⟩,
                      ⟨(some 55), .move (.tmp 3), none, false⟩,
                      ⟨(some 56), .slice 31 1 (.tmp 54) (some (.tmp 55)) none none, none, false⟩,
                      ⟨none, .clr 1 (.int .i64 0) (.tmp 56), none, false⟩])
                  (.seq (.region false [⟨(some 57), .move (.tmp 0), none, false⟩,
                        ⟨(some 58), .move (.tmp 3), none, false⟩,
                        ⟨(some 59), .slice 31 1 (.tmp 57) none (some (.tmp 58)) none, none, false⟩,
                        ⟨(some 2), .move (.tmp 59), none, false⟩])
                    (.ret)))))
            (.skip))))
      (.region false [⟨(some 14), .move (.tmp 3), none, false⟩,
          ⟨(some 15), .bin .add 3 (.tmp 14) (.const (.int .i64 1)), none, false⟩,
          ⟨(some 3), .move (.tmp 15), none, false⟩]))
/-- slices.Compact[[]int,int] -/
def ac45 : AC :=
  .seq (.region false [⟨(some 2), .move (.const (.slice none 0 0)), none, false⟩])
    (.seq (.seq (.region false [⟨(some 6), .move (.tmp 0), none, false⟩,
            ⟨(some 7), .bi .len [31].toArray 3 [(.tmp 6)], none, false⟩,
            ⟨(some 8), .bin .lss 3 (.tmp 7) (.const (.int .i64 2)), none, false⟩])
        (.cond (.tmp 8)
          (.seq (.region false [⟨(some 9), .move (.tmp 0), none, false⟩,
                ⟨(some 2), .move (.tmp 9), none, false⟩])
            (.ret))
          (.skip)))
      (.seq (.seq (.region false [⟨(some 3), .move (.const (.int .i64 1)), none, false⟩])
          (.block 0 (.loop ac45_L1)))
        (.seq (.region false [⟨(some 60), .move (.tmp 0), none, false⟩,
              ⟨(some 2), .move (.tmp 60), none, false⟩])
          (.ret))))
theorem text45 : FnText Try.prog 45 [] 61 1 ac45 [(2, none)] :=
  ⟨Try.call45, follows, Try.f45, _, Try.func45, rfl, rfl, by decide, by kernel_rfl, by kernel_rfl⟩

def ac37 : AC := rdc (cO Try.prog [] 53 Try.f37) _ (by conv => lhs; reduce)
def ac37_L1 : AC := rdc (lP 0 ac37) _ (by conv => lhs; reduce)
def ac37_L2 : AC := rdc (lP 1 ac37) _ (by conv => lhs; reduce)
theorem text37 : FnText Try.prog 37 [] 53 1 ac37 [(2, none)] := tX Try.call37 follows Try.func37 rfl rfl (by decide) (by kernel_rfl) (by kernel_rfl)

def ac29 : AC := rdc (cO Try.prog [] 38 Try.f29) _ (by conv => lhs; reduce)
def ac29_L1 : AC := rdc (lP 0 ac29) _ (by conv => lhs; reduce)
def ac29_L2 : AC := rdc (lP 1 ac29) _ (by conv => lhs; reduce)
theorem text29 : FnText Try.prog 29 [] 38 1 ac29 [(2, none)] := tX Try.call29 follows Try.func29 rfl rfl (by decide) (by kernel_rfl) (by kernel_rfl)

def ac43 : AC := rdc (cO Try.prog [] 19 Try.f43) _ (by conv => lhs; reduce)
theorem text43 : FnText Try.prog 43 [] 19 4 ac43 [] := tX Try.call43 follows Try.func43 rfl rfl (by decide) (by kernel_rfl) (by kernel_rfl)

def ac34 : AC := rdc (cO Try.prog [5, 7, 31] 68 Try.f34) _ (by conv => lhs; reduce)
def ac34_L1 : AC := rdc (lP 0 ac34) _ (by conv => lhs; reduce)
def ac34_L2 : AC := rdc (lP 1 ac34) _ (by conv => lhs; reduce)
def ac34_L3 : AC := rdc (lP 2 ac34) _ (by conv => lhs; reduce)
theorem text34 : FnText Try.prog 34 [5, 7, 31] 68 2 ac34 [(4, none)] := tX Try.call34 follows Try.func34 rfl rfl (by decide) (by kernel_rfl) (by kernel_rfl)

def ac36 : AC := rdc (cO Try.prog [] 43 Try.f36) _ (by conv => lhs; reduce)
def ac36_L1 : AC := rdc (lP 0 ac36) _ (by conv => lhs; reduce)
def ac36_L2 : AC := rdc (lP 1 ac36) _ (by conv => lhs; reduce)
theorem text36 : FnText Try.prog 36 [] 43 3 ac36 [(6, none)] := tX Try.call36 follows Try.func36 rfl rfl (by decide) (by kernel_rfl) (by kernel_rfl)

def ac17 : AC := rdc (cO Try.prog [] 33 Try.f17) _ (by conv => lhs; reduce)
theorem text17 : FnText Try.prog 17 [] 33 3 ac17 [(6, none), (7, none)] := tX Try.call17 follows Try.func17 rfl rfl (by decide) (by kernel_rfl) (by kernel_rfl)

def ac68 : AC := rdc (cO Try.prog [] 6 Try.f68) _ (by conv => lhs; reduce)
theorem text68 : FnText Try.prog 68 [] 6 1 ac68 [(2, none)] := tX Try.call68 follows Try.func68 rfl rfl (by decide) (by kernel_rfl) (by kernel_rfl)

def ac53 : AC := rdc (cO Try.prog [] 17 Try.f53) _ (by conv => lhs; reduce)
theorem text53 : FnText Try.prog 53 [] 17 2 ac53 [(4, none)] := tX Try.call53 follows Try.func53 rfl rfl (by decide) (by kernel_rfl) (by kernel_rfl)

def ac54 : AC := rdc (cO Try.prog [] 6 Try.f54) _ (by conv => lhs; reduce)
theorem text54 : FnText Try.prog 54 [] 6 1 ac54 [(2, none)] := tX Try.call54 follows Try.func54 rfl rfl (by decide) (by kernel_rfl) (by kernel_rfl)

def ac47 : AC := rdc (cO Try.prog [] 54 Try.f47) _ (by conv => lhs; reduce)
def ac47_L1 : AC := rdc (lP 0 ac47) _ (by conv => lhs; reduce)
theorem text47 : FnText Try.prog 47 [] 54 2 ac47 [(4, none), (5, none)] := tX Try.call47 follows Try.func47 rfl rfl (by decide) (by kernel_rfl) (by kernel_rfl)

def ac46 : AC := rdc (cO Try.prog [14] 16 Try.f46) _ (by conv => lhs; reduce)
theorem text46 : FnText Try.prog 46 [14] 16 2 ac46 [] := tX Try.call46 follows Try.func46 rfl rfl (by decide) (by kernel_rfl) (by kernel_rfl)

def ac49 : AC := rdc (cO Try.prog [] 33 Try.f49) _ (by conv => lhs; reduce)
theorem text49 : FnText Try.prog 49 [] 33 3 ac49 [(6, none)] := tX Try.call49 follows Try.func49 rfl rfl (by decide) (by kernel_rfl) (by kernel_rfl)

def ac39 : AC := rdc (cO Try.prog [8] 90 Try.f39) _ (by conv => lhs; reduce)
def ac39_L1 : AC := rdc (lP 0 ac39) _ (by conv => lhs; reduce)
def ac39_L2 : AC := rdc (lP 1 ac39) _ (by conv => lhs; reduce)
def ac39_L3 : AC := rdc (lP 2 ac39) _ (by conv => lhs; reduce)
def ac39_L4 : AC := rdc (lP 3 ac39) _ (by conv => lhs; reduce)
def ac39_L5 : AC := rdc (lP 4 ac39) _ (by conv => lhs; reduce)
theorem text39 : FnText Try.prog 39 [8] 90 1 ac39 [(2, none)] := tX Try.call39 follows Try.func39 rfl rfl (by decide) (by kernel_rfl) (by kernel_rfl)

def ac20 : AC := rdc (cO Try.prog [] 14 Try.f20) _ (by conv => lhs; reduce)
theorem text20 : FnText Try.prog 20 [] 14 1 ac20 [(2, none), (3, none)] := tX Try.call20 follows Try.func20 rfl rfl (by decide) (by kernel_rfl) (by kernel_rfl)

def ac22 : AC := rdc (cO Try.prog [] 9 Try.f22) _ (by conv => lhs; reduce)
theorem text22 : FnText Try.prog 22 [] 9 1 ac22 [(2, none), (3, none)] := tX Try.call22 follows Try.func22 rfl rfl (by decide) (by kernel_rfl) (by kernel_rfl)

def ac41 : AC := rdc (cO Try.prog [] 19 Try.f41) _ (by conv => lhs; reduce)
def ac41_L1 : AC := rdc (lP 0 ac41) _ (by conv => lhs; reduce)
theorem text41 : FnText Try.prog 41 [] 19 2 ac41 [(4, none)] := tX Try.call41 follows Try.func41 rfl rfl (by decide) (by kernel_rfl) (by kernel_rfl)

def ac24 : AC := rdc (cO Try.prog [] 29 Try.f24) _ (by conv => lhs; reduce)
theorem text24 : FnText Try.prog 24 [] 29 1 ac24 [(2, none), (3, none)] := tX Try.call24 follows Try.func24 rfl rfl (by decide) (by kernel_rfl) (by kernel_rfl)

def ac26 : AC := rdc (cO Try.prog [] 76 Try.f26) _ (by conv => lhs; reduce)
def ac26_L1 : AC := rdc (lP 0 ac26) _ (by conv => lhs; reduce)
def ac26_L2 : AC := rdc (lP 1 ac26) _ (by conv => lhs; reduce)
theorem text26 : FnText Try.prog 26 [] 76 1 ac26 [(2, none)] := tX Try.call26 follows Try.func26 rfl rfl (by decide) (by kernel_rfl) (by kernel_rfl)

def ac15 : AC := rdc (cO Try.prog [] 27 Try.f15) _ (by conv => lhs; reduce)
def ac15_L1 : AC := rdc (lP 0 ac15) _ (by conv => lhs; reduce)
theorem text15 : FnText Try.prog 15 [] 27 2 ac15 [(4, none)] := tX Try.call15 follows Try.func15 rfl rfl (by decide) (by kernel_rfl) (by kernel_rfl)

def ac19 : AC := rdc (cO Try.prog [] 26 Try.f19) _ (by conv => lhs; reduce)
def ac19_L1 : AC := rdc (lP 0 ac19) _ (by conv => lhs; reduce)
theorem text19 : FnText Try.prog 19 [] 26 2 ac19 [(4, none)] := tX Try.call19 follows Try.func19 rfl rfl (by decide) (by kernel_rfl) (by kernel_rfl)

def ac14 : AC := rdc (cO Try.prog [] 26 Try.f14) _ (by conv => lhs; reduce)
def ac14_L1 : AC := rdc (lP 0 ac14) _ (by conv => lhs; reduce)
theorem text14 : FnText Try.prog 14 [] 26 2 ac14 [(4, none)] := tX Try.call14 follows Try.func14 rfl rfl (by decide) (by kernel_rfl) (by kernel_rfl)

def ac28 : AC := rdc (cO Try.prog [] 27 Try.f28) _ (by conv => lhs; reduce)
def ac28_L1 : AC := rdc (lP 0 ac28) _ (by conv => lhs; reduce)
theorem text28 : FnText Try.prog 28 [] 27 2 ac28 [(4, none)] := tX Try.call28 follows Try.func28 rfl rfl (by decide) (by kernel_rfl) (by kernel_rfl)

def ac10 : AC := rdc (cO Try.prog [] 28 Try.f10) _ (by conv => lhs; reduce)
def ac10_L1 : AC := rdc (lP 0 ac10) _ (by conv => lhs; reduce)
def ac10_L2 : AC := rdc (lP 1 ac10) _ (by conv => lhs; reduce)
theorem text10 : FnText Try.prog 10 [] 28 1 ac10 [(2, none)] := tX Try.call10 follows Try.func10 rfl rfl (by decide) (by kernel_rfl) (by kernel_rfl)

def ac12 : AC := rdc (cO Try.prog [] 100 Try.f12) _ (by conv => lhs; reduce)
theorem text12 : FnText Try.prog 12 [] 100 0 ac12 [(0, none)] := tX Try.call12 follows Try.func12 rfl rfl (by decide) (by kernel_rfl) (by kernel_rfl)

def ac32 : AC := rdc (cO Try.prog [] 44 Try.f32) _ (by conv => lhs; reduce)
def ac32_L1 : AC := rdc (lP 0 ac32) _ (by conv => lhs; reduce)
theorem text32 : FnText Try.prog 32 [] 44 3 ac32 [(6, none)] := tX Try.call32 follows Try.func32 rfl rfl (by decide) (by kernel_rfl) (by kernel_rfl)

def ac31 : AC := rdc (cO Try.prog [] 44 Try.f31) _ (by conv => lhs; reduce)
def ac31_L1 : AC := rdc (lP 0 ac31) _ (by conv => lhs; reduce)
theorem text31 : FnText Try.prog 31 [] 44 2 ac31 [(4, none)] := tX Try.call31 follows Try.func31 rfl rfl (by decide) (by kernel_rfl) (by kernel_rfl)

def ac8 : AC := rdc (cO Try.prog [1000000] 114 Try.f8) _ (by conv => lhs; reduce)
def ac8_L1 : AC := rdc (lP 0 ac8) _ (by conv => lhs; reduce)
theorem text8 : FnText Try.prog 8 [1000000] 114 1 ac8 [(2, none)] := tX Try.call8 follows Try.func8 rfl rfl (by decide) (by kernel_rfl) (by kernel_rfl)

end Go.Proofs.Ytpdimhpjehfjeaa
