/-
 The text of each function of this seat,as the plain library tells it;each by the kernel's own reckoning from the program.
-/
import Derived.Test.YtmonnlkagniolaaL3TextA
set_option linter.unusedVariables false
set_option maxRecDepth 100000
namespace Go.Proofs.Ytmonnlkagniolaa
open Go Go.Pb
def ac19_L1:AC:=
 .seq (.seq (r_ [m_ 11 5,
 m_ 12 0,
 n_ 13 29 12,
 q_ 14 (.bin .lss 3 (t_ 11) (t_ 13))])
 (.cond (t_ 14)
 (.skip)
 (.exit 0)))
 (.seq (.block 1 (.seq (.region true [m_ 17 0,
 m_ 18 5,
 q_ 19 (.iaddr 1 (t_ 17) (t_ 18)),
 l_ 20 19,
 m_ 21 1,
 m_ 22 5,
 q_ 23 (.iaddr 1 (t_ 21) (t_ 22)),
 l_ 24 23,
 q_ 25 (.bin .neq 3 (t_ 20) (t_ 24))])
 (.cond (t_ 25)
 (.seq (r_ [(q_ 4 (.move (.const (.bool false))))])
 (.ret))
 (.skip))))
 (r_ [m_ 15 5,
 q_ 16 (.bin .add 3 (t_ 15) (k_ 1)),
 m_ 5 16]))
/-- patchbay/patchbaylaw31.equal -/
def ac19:AC:=
 .seq (r_ [(q_ 4 (.move (.const (.bool false))))])
 (.seq (.seq (r_ [m_ 6 0,
 n_ 7 29 6,
 m_ 8 1,
 n_ 9 29 8,
 q_ 10 (.bin .neq 3 (t_ 7) (t_ 9))])
 (.cond (t_ 10)
 (.seq (r_ [(q_ 4 (.move (.const (.bool false))))])
 (.ret))
 (.skip)))
 (.seq (.seq (r_ [q_ 5 (.move (k_ 0))])
 (.block 0 (.loop ac19_L1)))
 (.seq (r_ [(q_ 4 (.move (.const (.bool true))))])
 (.ret))))
theorem text19:FnText Try.prog 19 [] 26 2 ac19 [(4,none)]:=
 ⟨Try.call19,follows,Try.f19,_,Try.func19,rfl,rfl,by decide,by kernel_rfl,by kernel_rfl⟩
/-- (*patchbay/action.access).sorted -/
def ac41r:AC:=
 .seq (r_ [q_ 2 (.move z_),
 q_ 3 (.move z_),
 q_ 4 (.move z_)])
 (.seq (r_ [m_ 5 0,
 q_ 6 (.nilCheck (t_ 5)),
 f_ 7 0 6,
 l_ 8 7,
 q_ 9 (.call (.func 32) [(t_ 8),(.func 51)])])
 (.seq (r_ [m_ 10 0,
 q_ 11 (.nilCheck (t_ 10)),
 f_ 12 1 11,
 l_ 13 12,
 q_ 14 (.call (.func 37) [(t_ 13)])])
 (.seq (r_ [m_ 15 0,
 q_ 16 (.nilCheck (t_ 15)),
 f_ 17 2 16,
 l_ 18 17,
 q_ 19 (.call (.func 37) [(t_ 18)])])
 (.seq (.region true [m_ 20 0,
 q_ 21 (.nilCheck (t_ 20)),
 f_ 22 0 21,
 l_ 23 22,
 q_ 24 (.call (.func 36) [(t_ 23)]),
 m_ 25 0,
 q_ 26 (.nilCheck (t_ 25)),
 f_ 27 1 26,
 l_ 28 27,
 q_ 29 (.call (.func 38) [(t_ 28)]),
 m_ 30 0,
 q_ 31 (.nilCheck (t_ 30)),
 f_ 32 2 31,
 l_ 33 32,
 q_ 34 (.call (.func 38) [(t_ 33)]),
 m_ 2 24,
 m_ 3 29,
 m_ 4 34])
 (.ret)))))
theorem text41r:FnText Try.prog 41 [] 35 1 ac41r [(2,none),(3,none),(4,none)]:=
 ⟨Try.call41,follows,Try.f41,_,Try.func41,rfl,rfl,by decide,by kernel_rfl,by kernel_rfl⟩
end Go.Proofs.Ytmonnlkagniolaa
