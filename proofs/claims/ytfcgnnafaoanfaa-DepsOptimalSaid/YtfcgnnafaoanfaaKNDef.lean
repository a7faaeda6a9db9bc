/-
  Each function of this seat as a plain program.
-/
import Derived.Test.YtfcgnnafaoanfaaKNTy
import Derived.Test.YtfcgnnafaoanfaaKH
set_option linter.unusedVariables false
set_option linter.unusedSimpArgs false
set_option maxRecDepth 100000
namespace Go.Proofs.Ytfcgnnafaoanfaa.N
open Go Go.Pb Go.RowKit
def law33_DepsOptimal_L1 (y105 : (List Int)) (K0 : Int → Bool) : Nat → Int → Int → Bool
  | 0, x6_, x7_ => K0 x6_
  | m + 1, x6_, x7_ =>
    if (decide ((ix y105 x7_) < 0)) then
      false
    else
    law33_DepsOptimal_L1 y105 K0 m (max x6_ (ix y105 x7_)) (x7_ + 1)
def law33_DepsOptimal_L2 (x0 : List (List Int)) (x1 : List Int) (y114 : (List Int)) (K2 : Unit → Bool) : Nat → Int → Bool
  | 0, x9_ => K2 ()
  | m + 1, x9_ =>
    if (((decide ((ix y114 x9_) < 0)) || (decide ((x0.length : Int) ≤ (ix y114 x9_)))) || ((decide (0 < x9_)) && (decide ((ix x1 (ix y114 x9_)) ≤ (ix x1 (ix y114 (wr (x9_ - 1)))))))) then
      false
    else
    law33_DepsOptimal_L2 x0 x1 y114 K2 m (x9_ + 1)
def law33_DepsOptimal_L3 (x1 : List Int) (K4 : Unit → Bool) : Nat → Int → Bool
  | 0, x10_ => K4 ()
  | m + 1, x10_ =>
    if (decide ((ix x1 x10_) < 0)) then
      LET (law33_works) fun y131 =>
      y131
    else
    law33_DepsOptimal_L3 x1 K4 m (x10_ + 1)
def law33_DepsOptimal_L4 (x1 : List Int) (y105 : (List Int)) (K6 : Unit → Bool) : Nat → Int → Bool
  | 0, x11_ => K6 ()
  | m + 1, x11_ =>
    if (decide ((ix x1 x11_) < (ix y105 x11_))) then
      false
    else
    law33_DepsOptimal_L4 x1 y105 K6 m (x11_ + 1)
/-- patchbay/patchbaylaw33.DepsOptimal -/
noncomputable def law33_DepsOptimal (x0 : List (List Int)) (x1 : List Int) : Bool :=
  LET (law33_smallMatrix x0) fun y101 =>
  if ((!y101) || (decide (20 < (x1.length : Int)))) then
    LET (law33_works) fun y104 =>
    y104
  else
  LET (deps_EarliestStages x0) fun y105 =>
  if ((!decide ((y105.length : Int) = (x0.length : Int))) || (!(deps_Satisfied x0 y105))) then
    false
  else
  law33_DepsOptimal_L1 y105 (fun (x6_113 : Int) =>
      LET (deps_CriticalPath x0) fun y114 =>
      if (!decide ((y114.length : Int) = (wr (x6_113 + 1)))) then
        false
      else
      LET (deps_Satisfied x0 x1) fun y117 =>
      if (!y117) then
        LET (law33_works) fun y119 =>
        y119
      else
      if (!decide ((x1.length : Int) = (x0.length : Int))) then
        false
      else
      law33_DepsOptimal_L2 x0 x1 y114 (fun (_ : Unit) =>
          law33_DepsOptimal_L3 x1 (fun (_ : Unit) =>
              law33_DepsOptimal_L4 x1 y105 (fun (_ : Unit) =>
                  LET (law33_works) fun y137 =>
                  y137) (Int.toNat ((x1.length : Int) - 0)) 0) (Int.toNat ((x1.length : Int) - 0)) 0) (Int.toNat ((y114.length : Int) - 0)) 0) (Int.toNat ((y105.length : Int) - 0)) (-1) 0

end Go.Proofs.Ytfcgnnafaoanfaa.N
