/-
  Each function of this seat az0 a plain program.
-/
import Derived.Test.YtkgnjpoafilicaaKTy
import Derived.Test.YtkgnjpoafilicaaPbC
import Derived.Test.YtkgnjpoafilicaaKMuWm
import Derived.Test.YtkgnjpoafilicaaKMuWm
set_option linter.unusedVariables false
set_option linter.unusedSimpArgs false
set_option maxRecDepth 100000
namespace Go.Proofs.Ytkgnjpoafilicaa
open Go Go.Pb Go.RowKit
def law20_size_L1 (x0 : List api_ControlNode) (x1 : Int) (x2 : Int) (rec_ : (List api_ControlNode) → Int → Int → Int) (K0 : Int → Int) : Nat → Int → Int → Int
  | 0, x7_, x8_ => K0 x7_
  | m + 1, x7_, x8_ =>
    if ((decide (x8_ < (x0.length : Int))) && (decide (x7_ ≤ x1))) then
      if ((decide (40 < (((ix x0 x8_).Cond).length : Int))) || (decide (x2 = 0))) then
        (wr (x1 + 1))
      else
      LET (rec_ ((ix x0 x8_).Then) (wr (x1 - (wr (x7_ + 1)))) (wr (x2 - 1))) fun y111 =>
      if (decide ((wr ((wr (x7_ + 1)) + y111)) ≤ x1)) then
        LET (rec_ ((ix x0 x8_).Else) (wr (x1 - (wr ((wr (x7_ + 1)) + y111)))) (wr (x2 - 1))) fun y115 =>
        law20_size_L1 x0 x1 x2 rec_ K0 m (wr ((wr ((wr (x7_ + 1)) + y111)) + y115)) (x8_ + 1)
      else
      law20_size_L1 x0 x1 x2 rec_ K0 m (wr ((wr (x7_ + 1)) + y111)) (x8_ + 1)
    else
    K0 x7_
/-- patchbay/patchbaylaw20.size -/
def law20_size_B (rec_ : (List api_ControlNode) → Int → Int → Int) (x0 : List api_ControlNode) (x1 : Int) (x2 : Int) : Int :=
  law20_size_L1 x0 x1 x2 rec_ (fun (x7_116 : Int) =>
      x7_116) (Int.toNat ((x0.length : Int) - 0)) 0 0
def law20_size_R : Nat → (List api_ControlNode) → Int → Int → Int
  | 0, _, _, _ => default
  | n_ + 1, x0, x1, x2 => law20_size_B (law20_size_R n_) x0 x1 x2
def law20_size (x0 : List api_ControlNode) (x1 : Int) (x2 : Int) : Int := law20_size_R (csl x0 + 1) x0 x1 x2

/-- patchbay/patchbaylaw20.Small -/
def law20_Small (x0 : List api_ControlNode) (x1 : Int) : Bool :=
  LET (law20_size x0 x1 12) fun y101 =>
  (decide (y101 ≤ x1))

def law20_works : Bool := true

/-- (*patchbay/patchbaylaw20.walk).answer -/
def m2_law20_walk__answer (x0 : law20_walk) : Bool × law20_walk :=
  (((decide (0 < (x0.answers.length : Int))) && (ix x0.answers (Int.tmod x0.next (x0.answers.length : Int)))), ({ answers := x0.answers, next := (wr (x0.next + 1)), tables := x0.tables, conds := x0.conds } : law20_walk))

/-- (*patchbay/patchbaylaw20.walk).apply -/
def m2_law20_walk__apply (x0 : law20_walk) (x1 : Int) : Bool × law20_walk :=
  LET (m2_law20_walk__answer ({ answers := x0.answers, next := x0.next, tables := (x0.tables ++ ([x1] : List Int)), conds := (x0.conds ++ ([(-1)] : List Int)) } : law20_walk)) fun y107 =>
  (y107.1, ({ answers := y107.2.answers, next := y107.2.next, tables := y107.2.tables, conds := y107.2.conds } : law20_walk))

/-- (*patchbay/patchbaylaw20.walk).test -/
def m2_law20_walk__test (x0 : law20_walk) (x1 : List api_ExprNode) : Bool × law20_walk :=
  LET (m2_law20_walk__answer ({ answers := x0.answers, next := x0.next, tables := x0.tables, conds := (x0.conds ++ ([(x1.length : Int)] : List Int)) } : law20_walk)) fun y104 =>
  (y104.1, ({ answers := y104.2.answers, next := y104.2.next, tables := y104.2.tables, conds := y104.2.conds } : law20_walk))

/-- patchbay/control.Walk$1 -/
def control_Walk_1 (x0 : Int) : Bool :=
  false

/-- patchbay/control.Walk$2 -/
def control_Walk_2 (x0 : List api_ExprNode) : Bool :=
  false

def awk (t : Int) (s : law20_walk) : Bool × law20_walk := m2_law20_walk__apply s t
def twk (l : List api_ExprNode) (s : law20_walk) : Bool × law20_walk := m2_law20_walk__test s l
def m2_law20_walk__execute (x0 : law20_walk) (x1 : List api_ControlNode) : law20_walk := wkL awk twk x1 x0
def wkAT (x0 : List api_ControlNode) (x1 : law20_walk) : law20_walk := wkL awk twk x0 x1
def wkAN (x0 : List api_ControlNode) (x1 : law20_walk) : law20_walk := wkL awk (fun _ s => (false, s)) x0 x1
def wkNT (x0 : List api_ControlNode) (x1 : law20_walk) : law20_walk := wkL (fun _ s => (false, s)) twk x0 x1
def wkNN (x0 : List api_ControlNode) : Unit := ()

def ref02_EqualInts_L1 (x0 : List Int) (x1 : List Int) (K0 : Unit → Bool) : Nat → Int → Bool
  | 0, x5_ => K0 ()
  | m + 1, x5_ =>
    if (!decide ((ix x0 x5_) = (ix x1 x5_))) then
      false
    else
    ref02_EqualInts_L1 x0 x1 K0 m (x5_ + 1)
/-- patchbay/patchbayref02.EqualInts -/
def ref02_EqualInts (x0 : List Int) (x1 : List Int) : Bool :=
  if (!decide ((x0.length : Int) = (x1.length : Int))) then
    false
  else
  ref02_EqualInts_L1 x0 x1 (fun (_ : Unit) =>
      true) (Int.toNat ((x0.length : Int) - 0)) 0

/-- patchbay/patchbaylaw20.ControlWalks -/
def law20_ControlWalks (x0 : List api_ControlNode) (x1 : List Bool) : Bool :=
  LET (law20_Small x0 60) fun y101 =>
  if ((!y101) || (decide (20 < (x1.length : Int)))) then
    LET (law20_works) fun y104 =>
    y104
  else
  LET (wkAT x0 ({ answers := x1, next := 0, tables := ([] : List Int), conds := ([] : List Int) } : law20_walk)) fun y109 =>
  LET (m2_law20_walk__execute ({ answers := x1, next := 0, tables := ([] : List Int), conds := ([] : List Int) } : law20_walk) x0) fun y115 =>
  LET (ref02_EqualInts y109.tables y115.tables) fun y121 =>
  ((y121 && (ref02_EqualInts y109.conds y115.conds)) && (law20_works))

/-- patchbay/control.applies -/
def control_applies (x0 : api_ControlNode) : Bool :=
  ((decide (x0.Kind = 1)) || (decide (x0.Kind = 3)))

/-- patchbay/control.Tables$1 -/
def control_Tables_1 (x0 : api_ControlNode) (c0 : List Int) : Bool × (List Int) :=
  LET (control_applies x0) fun y103 =>
  if y103 then
    (true, (c0 ++ ([x0.Table] : List Int)))
  else
  (true, c0)

/-- patchbay/control.Tables -/
def control_Tables (x0 : List api_ControlNode) : (List Int) :=
  LET (control_preorder (fun a_ s_ => control_Tables_1 a_ s_) x0 ([] : List Int)) fun y103 =>
  y103.2

/-- patchbay/control.Count$1 -/
def control_Count_1 (x0 : api_ControlNode) (c0 : Int) : Bool × Int :=
  (true, (wr (c0 + 1)))

/-- patchbay/control.Count -/
def control_Count (x0 : List api_ControlNode) : Int :=
  LET (control_preorder (fun a_ s_ => control_Count_1 a_ s_) x0 0) fun y104 =>
  y104.2

def control_cloneAll_H_L1 (x0 : List api_ControlNode) (rec55_ : api_ControlNode → api_ControlNode) (K0 : (List api_ControlNode) → (List api_ControlNode)) : Nat → Int → (List api_ControlNode) → (List api_ControlNode)
  | 0, x8_, zE102 => K0 zE102
  | m + 1, x8_, zE102 =>
    LET (rec55_ (ix x0 x8_)) fun y109 =>
    control_cloneAll_H_L1 x0 rec55_ K0 m (x8_ + 1) (zE102 ++ ([y109] : List api_ControlNode))
/-- patchbay/control.cloneAll -/
def control_cloneAll_H (rec55_ : api_ControlNode → api_ControlNode) (x0 : List api_ControlNode) : (List api_ControlNode) :=
  control_cloneAll_H_L1 x0 rec55_ (fun (zE102_113 : List api_ControlNode) =>
      zE102_113) (Int.toNat ((x0.length : Int) - 0)) 0 ([] : List api_ControlNode)

/-- patchbay/control.clone -/
def control_clone_H (rec78_ : (List api_ControlNode) → (List api_ControlNode)) (x0 : api_ControlNode) : api_ControlNode :=
  LET (rec78_ x0.Then) fun y111 =>
  LET (rec78_ x0.Else) fun y113 =>
  ({ Kind := x0.Kind, Table := x0.Table, Cond := x0.Cond, Then := y111, Else := y113 } : api_ControlNode)

/-- patchbay/control.Node$1 -/
def control_Node_1 (x0 : api_ControlNode) (c0 : Int) (c1 : Int) (c2 : api_ControlNode) : Bool × Int × api_ControlNode :=
  if (decide (c0 = c1)) then
    LET (control_clone x0) fun y104 =>
    (false, c0, y104)
  else
  (true, (wr (c0 + 1)), c2)

/-- patchbay/control.Node -/
def control_Node (x0 : List api_ControlNode) (x1 : Int) : api_ControlNode × Bool :=
  LET (control_preorder (fun a_ s_ => control_Node_1 a_ s_.1 x1 s_.2) x0 (0, ({ Kind := 0, Table := 0, Cond := ([] : List api_ExprNode), Then := ([] : List api_ControlNode), Else := ([] : List api_ControlNode) } : api_ControlNode))) fun y108 =>
  (y108.2.2, (!y108.1))

def law20_ControlOrder_L1 (y107 : law20_walk) (y113 : (List Int)) (K0 : Int → Bool) : Nat → Int → Int → Bool
  | 0, x7_, x8_ => K0 x7_
  | m + 1, x7_, x8_ =>
    if ((decide (x8_ < (y113.length : Int))) && (decide (x7_ < (y107.tables.length : Int)))) then
      if (decide ((ix y113 x8_) = (ix y107.tables x7_))) then
        law20_ControlOrder_L1 y107 y113 K0 m (wr (x7_ + 1)) (x8_ + 1)
      else
      law20_ControlOrder_L1 y107 y113 K0 m x7_ (x8_ + 1)
    else
    K0 x7_
def law20_ControlOrder_L2 (x0 : List api_ControlNode) (y113 : (List Int)) (y124 : Int) (K2 : Int → Bool) : Nat → Int → Int → Bool
  | 0, x10_, x11_ => K2 x10_
  | m + 1, x10_, x11_ =>
    LET (control_Node x0 x11_) fun y127 =>
    if (!y127.2) then
      false
    else
    LET (fun (x10_137 : Int) =>
      LET (control_Count y127.1.Then) fun y139 =>
      LET (control_Count y127.1.Else) fun y141 =>
      if (decide (y124 ≤ (wr (x11_ + (wr (y139 + y141)))))) then
        false
      else
      if (decide (0 < (y127.1.Then.length : Int))) then
        LET (control_Node x0 (wr (x11_ + 1))) fun y145 =>
        if (((!y145.2) || (!decide (y145.1.Kind = ((ix y127.1.Then 0).Kind)))) || (!decide (y145.1.Table = ((ix y127.1.Then 0).Table)))) then
          false
        else
        law20_ControlOrder_L2 x0 y113 y124 K2 m x10_137 (x11_ + 1)
      else
      law20_ControlOrder_L2 x0 y113 y124 K2 m x10_137 (x11_ + 1)) fun k137 =>
    if ((decide (y127.1.Kind = 1)) || (decide (y127.1.Kind = 3))) then
      if ((decide ((y113.length : Int) ≤ x10_)) || (!decide ((ix y113 x10_) = y127.1.Table))) then
        false
      else
      k137 (wr (x10_ + 1))
    else
    k137 x10_
/-- patchbay/patchbaylaw20.ControlOrder -/
def law20_ControlOrder (x0 : List api_ControlNode) (x1 : List Bool) : Bool :=
  LET (law20_Small x0 60) fun y101 =>
  if ((!y101) || (decide (20 < (x1.length : Int)))) then
    LET (law20_works) fun y104 =>
    y104
  else
  LET (wkAT x0 ({ answers := x1, next := 0, tables := ([] : List Int), conds := ([] : List Int) } : law20_walk)) fun y107 =>
  LET (control_Tables x0) fun y113 =>
  law20_ControlOrder_L1 y107 y113 (fun (x7_123 : Int) =>
      LET (control_Count x0) fun y124 =>
      law20_ControlOrder_L2 x0 y113 y124 (fun (x10_160 : Int) =>
          LET (control_Node x0 y124) fun y161 =>
          LET (control_Node x0 (-1)) fun y166 =>
          (((((decide (x7_123 = (y107.tables.length : Int))) && (decide (x10_160 = (y113.length : Int)))) && (!y161.2)) && (!y166.2)) && (law20_works))) (Int.toNat (y124 - 0)) 0 0) (Int.toNat ((y113.length : Int) - 0)) 0 0

def law20_onlyApply_L1 (x0 : List api_ControlNode) (x1 : List Bool) (rec_ : (List api_ControlNode) → (List Bool) → Int → Int) (K0 : Int → Int) : Nat → Int → Int → Int
  | 0, x2_, x7_ => K0 x2_
  | m + 1, x2_, x7_ =>
    if (decide (((ix x0 x7_).Kind) = 1)) then
      LET (rec_ ([] : List api_ControlNode) x1 (wr (x2_ + 1))) fun y107 =>
      law20_onlyApply_L1 x0 x1 rec_ K0 m y107 (x7_ + 1)
    else
    if (decide (((ix x0 x7_).Kind) = 3)) then
      LET (fun (x8_113 : List api_ControlNode) =>
        LET (rec_ x8_113 x1 (wr (x2_ + 1))) fun y114 =>
        law20_onlyApply_L1 x0 x1 rec_ K0 m y114 (x7_ + 1)) fun k113 =>
      if ((decide (0 < (x1.length : Int))) && (ix x1 (Int.tmod x2_ (x1.length : Int)))) then
        k113 ((ix x0 x7_).Then)
      else
      k113 ((ix x0 x7_).Else)
    else
    if (decide (((ix x0 x7_).Kind) = 2)) then
      LET (rec_ ((ix x0 x7_).Else) x1 x2_) fun y121 =>
      law20_onlyApply_L1 x0 x1 rec_ K0 m y121 (x7_ + 1)
    else
    LET (rec_ ([] : List api_ControlNode) x1 x2_) fun y122 =>
    law20_onlyApply_L1 x0 x1 rec_ K0 m y122 (x7_ + 1)
/-- patchbay/patchbaylaw20.onlyApply -/
def law20_onlyApply_B (rec_ : (List api_ControlNode) → (List Bool) → Int → Int) (x0 : List api_ControlNode) (x1 : List Bool) (x2 : Int) : Int :=
  law20_onlyApply_L1 x0 x1 rec_ (fun (x2_123 : Int) =>
      x2_123) (Int.toNat ((x0.length : Int) - 0)) x2 0
def law20_onlyApply_R : Nat → (List api_ControlNode) → (List Bool) → Int → Int
  | 0, x0, x1, x2 => x2
  | n_ + 1, x0, x1, x2 => law20_onlyApply_B (law20_onlyApply_R n_) x0 x1 x2
def law20_onlyApply (x0 : List api_ControlNode) (x1 : List Bool) (x2 : Int) : Int := law20_onlyApply_R (csl x0 + 1) x0 x1 x2

def law20_onlyTest_L1 (x0 : List api_ControlNode) (x1 : List Bool) (rec_ : (List api_ControlNode) → (List Bool) → Int → Int) (K0 : Int → Int) : Nat → Int → Int → Int
  | 0, x2_, x7_ => K0 x2_
  | m + 1, x2_, x7_ =>
    if (decide (((ix x0 x7_).Kind) = 2)) then
      LET (fun (x8_111 : List api_ControlNode) =>
        LET (rec_ x8_111 x1 (wr (x2_ + 1))) fun y112 =>
        law20_onlyTest_L1 x0 x1 rec_ K0 m y112 (x7_ + 1)) fun k111 =>
      if ((decide (0 < (x1.length : Int))) && (ix x1 (Int.tmod x2_ (x1.length : Int)))) then
        k111 ((ix x0 x7_).Then)
      else
      k111 ((ix x0 x7_).Else)
    else
    if (decide (((ix x0 x7_).Kind) = 3)) then
      LET (rec_ ((ix x0 x7_).Else) x1 x2_) fun y119 =>
      law20_onlyTest_L1 x0 x1 rec_ K0 m y119 (x7_ + 1)
    else
    LET (rec_ ([] : List api_ControlNode) x1 x2_) fun y120 =>
    law20_onlyTest_L1 x0 x1 rec_ K0 m y120 (x7_ + 1)
/-- patchbay/patchbaylaw20.onlyTest -/
def law20_onlyTest_B (rec_ : (List api_ControlNode) → (List Bool) → Int → Int) (x0 : List api_ControlNode) (x1 : List Bool) (x2 : Int) : Int :=
  law20_onlyTest_L1 x0 x1 rec_ (fun (x2_121 : Int) =>
      x2_121) (Int.toNat ((x0.length : Int) - 0)) x2 0
def law20_onlyTest_R : Nat → (List api_ControlNode) → (List Bool) → Int → Int
  | 0, x0, x1, x2 => x2
  | n_ + 1, x0, x1, x2 => law20_onlyTest_B (law20_onlyTest_R n_) x0 x1 x2
def law20_onlyTest (x0 : List api_ControlNode) (x1 : List Bool) (x2 : Int) : Int := law20_onlyTest_R (csl x0 + 1) x0 x1 x2

/-- patchbay/patchbaylaw20.ControlNil -/
def law20_ControlNil (x0 : List api_ControlNode) (x1 : List Bool) : Bool :=
  LET (law20_Small x0 60) fun y101 =>
  if ((!y101) || (decide (20 < (x1.length : Int)))) then
    LET (law20_works) fun y104 =>
    y104
  else
  LET (wkNN x0) fun y109 =>
  LET (wkAN x0 ({ answers := x1, next := 0, tables := ([] : List Int), conds := ([] : List Int) } : law20_walk)) fun y111 =>
  LET (wkNT x0 ({ answers := x1, next := 0, tables := ([] : List Int), conds := ([] : List Int) } : law20_walk)) fun y117 =>
  LET (law20_onlyApply x0 x1 0) fun y123 =>
  LET (law20_onlyTest x0 x1 0) fun y124 =>
  (((decide (y111.next = y123)) && (decide (y117.next = y124))) && (law20_works))

end Go.Proofs.Ytkgnjpoafilicaa
