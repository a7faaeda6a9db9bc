/-
  Each function of this seat as a plain program.
-/
import Derived.Test.YtkgnjpoafilicaaKTy
import Derived.Test.YtkgnjpoafilicaaPbC
set_option linter.unusedVariables false
set_option linter.unusedSimpArgs false
set_option maxRecDepth 100000
namespace Go.Proofs.Ytkgnjpoafilicaa
open Go Go.Pb Go.RowKit
def law32_small_L1 (x0 : List api_Unit) (K0 : Unit → Bool) : Nat → Int → Bool
  | 0, x3_ => K0 ()
  | m + 1, x3_ =>
    if (decide (40 < (((ix x0 x3_).Guards).length : Int))) then
      false
    else
    law32_small_L1 x0 K0 m (x3_ + 1)
/-- patchbay/patchbaylaw32.small -/
def law32_small (x0 : List api_Unit) : Bool :=
  if (decide (60 < (x0.length : Int))) then
    false
  else
  law32_small_L1 x0 (fun (_ : Unit) =>
      true) (Int.toNat ((x0.length : Int) - 0)) 0

def law32_awake : Bool := true

def units_Executes_L1 (x0 : List api_Unit) (x1 : List Bool) (x2 : Int) (K0 : Unit → Bool) : Nat → Int → Bool
  | 0, x23_ => K0 ()
  | m + 1, x23_ =>
    if (!decide ((((decide (0 ≤ ((ix ((ix x0 x2).Guards) x23_).Unit))) && (decide (((ix ((ix x0 x2).Guards) x23_).Unit) < (x1.length : Int)))) && (ix x1 ((ix ((ix x0 x2).Guards) x23_).Unit))) = ((ix ((ix x0 x2).Guards) x23_).Want))) then
      false
    else
    units_Executes_L1 x0 x1 x2 K0 m (x23_ + 1)
/-- patchbay/units.Executes -/
def units_Executes (x0 : List api_Unit) (x1 : List Bool) (x2 : Int) : Bool :=
  if ((decide (x2 < 0)) || (decide ((x0.length : Int) ≤ x2))) then
    false
  else
  units_Executes_L1 x0 x1 x2 (fun (_ : Unit) =>
      true) (Int.toNat ((((ix x0 x2).Guards).length : Int) - 0)) 0

def ref32_Executes_L1 (x0 : List api_Unit) (x1 : List Bool) (x2 : Int) (K0 : Unit → Bool) : Nat → Int → Bool
  | 0, x7_ => K0 ()
  | m + 1, x7_ =>
    if (!decide ((((decide (0 ≤ ((ix ((ix x0 x2).Guards) x7_).Unit))) && (decide (((ix ((ix x0 x2).Guards) x7_).Unit) < (x1.length : Int)))) && (ix x1 ((ix ((ix x0 x2).Guards) x7_).Unit))) = ((ix ((ix x0 x2).Guards) x7_).Want))) then
      false
    else
    ref32_Executes_L1 x0 x1 x2 K0 m (x7_ + 1)
/-- patchbay/patchbayref32.Executes -/
def ref32_Executes (x0 : List api_Unit) (x1 : List Bool) (x2 : Int) : Bool :=
  if ((decide (x2 < 0)) || (decide ((x0.length : Int) ≤ x2))) then
    false
  else
  ref32_Executes_L1 x0 x1 x2 (fun (_ : Unit) =>
      true) (Int.toNat ((((ix x0 x2).Guards).length : Int) - 0)) 0

def slices_Index__api_Guard_api_Guard__L1 (x0 : List api_Guard) (x1 : api_Guard) (K0 : Unit → Int) : Nat → Int → Int
  | 0, x8_ => K0 ()
  | m + 1, x8_ =>
    if (decide (x1 = (ix x0 x8_))) then
      x8_
    else
    slices_Index__api_Guard_api_Guard__L1 x0 x1 K0 m (x8_ + 1)
/-- slices.Index[[]patchbay/api.Guard,patchbay/api.Guard] -/
def slices_Index__api_Guard_api_Guard_ (x0 : List api_Guard) (x1 : api_Guard) : Int :=
  slices_Index__api_Guard_api_Guard__L1 x0 x1 (fun (_ : Unit) =>
      (-1)) (Int.toNat ((x0.length : Int) - 0)) 0

/-- slices.Contains[[]patchbay/api.Guard,patchbay/api.Guard] -/
def slices_Contains__api_Guard_api_Guard_ (x0 : List api_Guard) (x1 : api_Guard) : Bool :=
  LET (slices_Index__api_Guard_api_Guard_ x0 x1) fun y101 =>
  (decide (0 ≤ y101))

/-- patchbay/units.Exclusive$1 -/
def units_Exclusive_1 (x0 : api_Guard) (c0 : List api_Unit) (c1 : Int) : Bool :=
  LET (slices_Contains__api_Guard_api_Guard_ ((ix c0 c1).Guards) ({ Unit := x0.Unit, Want := (!x0.Want) } : api_Guard)) fun y103 =>
  y103

def slices_IndexFunc__api_Guard_api_Guard__L1 (x0 : List api_Guard) (x1 : api_Guard → Bool) (K0 : Unit → Int) : Nat → Int → Int
  | 0, x8_ => K0 ()
  | m + 1, x8_ =>
    if (x1 (ix x0 x8_)) then
      x8_
    else
    slices_IndexFunc__api_Guard_api_Guard__L1 x0 x1 K0 m (x8_ + 1)
/-- slices.IndexFunc[[]patchbay/api.Guard,patchbay/api.Guard] -/
def slices_IndexFunc__api_Guard_api_Guard_ (x0 : List api_Guard) (x1 : api_Guard → Bool) : Int :=
  slices_IndexFunc__api_Guard_api_Guard__L1 x0 x1 (fun (_ : Unit) =>
      (-1)) (Int.toNat ((x0.length : Int) - 0)) 0

/-- slices.ContainsFunc[[]patchbay/api.Guard,patchbay/api.Guard] -/
def slices_ContainsFunc__api_Guard_api_Guard_ (x0 : List api_Guard) (x1 : api_Guard → Bool) : Bool :=
  LET (slices_IndexFunc__api_Guard_api_Guard_ x0 x1) fun y101 =>
  (decide (0 ≤ y101))

/-- patchbay/units.Exclusive -/
def units_Exclusive (x0 : List api_Unit) (x1 : Int) (x2 : Int) : Bool :=
  if ((((decide (x1 < 0)) || (decide ((x0.length : Int) ≤ x1))) || (decide (x2 < 0))) || (decide ((x0.length : Int) ≤ x2))) then
    false
  else
  LET (slices_ContainsFunc__api_Guard_api_Guard_ ((ix x0 x1).Guards) (fun a_ => units_Exclusive_1 a_ x0 x2)) fun y108 =>
  y108

def ref32_Exclusive_L2 (x0 : List api_Unit) (x1 : Int) (x2 : Int) (x7_ : Int) (K2 : Unit → Bool) : Nat → Int → Bool
  | 0, x8_ => K2 ()
  | m + 1, x8_ =>
    if ((decide (((ix ((ix x0 x1).Guards) x7_).Unit) = ((ix ((ix x0 x2).Guards) x8_).Unit))) && (!decide (((ix ((ix x0 x1).Guards) x7_).Want) = ((ix ((ix x0 x2).Guards) x8_).Want)))) then
      true
    else
    ref32_Exclusive_L2 x0 x1 x2 x7_ K2 m (x8_ + 1)
def ref32_Exclusive_L1 (x0 : List api_Unit) (x1 : Int) (x2 : Int) (K0 : Unit → Bool) : Nat → Int → Bool
  | 0, x7_ => K0 ()
  | m + 1, x7_ =>
    ref32_Exclusive_L2 x0 x1 x2 x7_ (fun (_ : Unit) =>
        ref32_Exclusive_L1 x0 x1 x2 K0 m (x7_ + 1)) (Int.toNat ((((ix x0 x2).Guards).length : Int) - 0)) 0
/-- patchbay/patchbayref32.Exclusive -/
def ref32_Exclusive (x0 : List api_Unit) (x1 : Int) (x2 : Int) : Bool :=
  if ((((decide (x1 < 0)) || (decide (x2 < 0))) || (decide ((x0.length : Int) ≤ x1))) || (decide ((x0.length : Int) ≤ x2))) then
    false
  else
  ref32_Exclusive_L1 x0 x1 x2 (fun (_ : Unit) =>
      false) (Int.toNat ((((ix x0 x1).Guards).length : Int) - 0)) 0

/-- patchbay/patchbaylaw32.UnitsGuard -/
def law32_UnitsGuard (x0 : List api_Unit) (x1 : List Bool) (x2 : List Int) : Bool :=
  LET (law32_small x0) fun y101 =>
  if (!y101) then
    LET (law32_awake) fun y103 =>
    y103
  else
  LET (units_Executes x0 x1 (ix x2 0)) fun y105 =>
  LET (ref32_Executes x0 x1 (ix x2 0)) fun y107 =>
  ((((decide (y105 = y107)) && (decide ((units_Exclusive x0 (ix x2 0) (ix x2 1)) = (ref32_Exclusive x0 (ix x2 0) (ix x2 1))))) && (decide ((units_Exclusive x0 (ix x2 0) (ix x2 1)) = (units_Exclusive x0 (ix x2 1) (ix x2 0))))) && (law32_awake))

/-- patchbay/patchbaylaw32.UnitsExclude -/
def law32_UnitsExclude (x0 : List api_Unit) (x1 : List Bool) (x2 : List Int) : Bool :=
  LET (law32_small x0) fun y101 =>
  if (!y101) then
    LET (law32_awake) fun y103 =>
    y103
  else
  LET (units_Exclusive x0 (ix x2 0) (ix x2 1)) fun y106 =>
  ((!((y106 && (units_Executes x0 x1 (ix x2 0))) && (units_Executes x0 x1 (ix x2 1)))) && (law32_awake))

end Go.Proofs.Ytkgnjpoafilicaa
