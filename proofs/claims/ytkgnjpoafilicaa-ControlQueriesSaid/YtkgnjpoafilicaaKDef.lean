/-
  Each function of this seat az0 a plain program.
-/
import Derived.Test.YtkgnjpoafilicaaKTy
import Derived.Test.YtkgnjpoafilicaaPbC
import Derived.Test.YtkgnjpoafilicaaKMu
set_option linter.unusedVariables false
set_option linter.unusedSimpArgs false
set_option maxRecDepth 100000
namespace Go.Proofs.Ytkgnjpoafilicaa
open Go Go.Pb Go.RowKit
def law20_size_L1 (x0 : List api_ControlNode) (x1 : Int) (x2 : Int) (rec_ : (List api_ControlNode) → Int → Int → Int) (K0 : Int → Int) : Nat → Int → Int → Int
  | 0, x7_, x8_ => K0 x7_
  | m + 1, x7_, x8_ =>
    if ((decide (x8_ < (x0.length : Int))) && (decide (x7_ ≤ x1))) then
      if ((decide (40 < (((ix x0 x8_).Cond).length : Int))) || (decide (x2 = 0))) then
        (wr (x1 + 1))
      else
      LET (rec_ ((ix x0 x8_).Then) (wr (x1 - (wr (x7_ + 1)))) (wr (x2 - 1))) fun y111 =>
      if (decide ((wr ((wr (x7_ + 1)) + y111)) ≤ x1)) then
        LET (rec_ ((ix x0 x8_).Else) (wr (x1 - (wr ((wr (x7_ + 1)) + y111)))) (wr (x2 - 1))) fun y115 =>
        law20_size_L1 x0 x1 x2 rec_ K0 m (wr ((wr ((wr (x7_ + 1)) + y111)) + y115)) (x8_ + 1)
      else
      law20_size_L1 x0 x1 x2 rec_ K0 m (wr ((wr (x7_ + 1)) + y111)) (x8_ + 1)
    else
    K0 x7_
/-- patchbay/patchbaylaw20.size -/
def law20_size_B (rec_ : (List api_ControlNode) → Int → Int → Int) (x0 : List api_ControlNode) (x1 : Int) (x2 : Int) : Int :=
  law20_size_L1 x0 x1 x2 rec_ (fun (x7_116 : Int) =>
      x7_116) (Int.toNat ((x0.length : Int) - 0)) 0 0
def law20_size_R : Nat → (List api_ControlNode) → Int → Int → Int
  | 0, _, _, _ => default
  | n_ + 1, x0, x1, x2 => law20_size_B (law20_size_R n_) x0 x1 x2
def law20_size (x0 : List api_ControlNode) (x1 : Int) (x2 : Int) : Int := law20_size_R (csl x0 + 1) x0 x1 x2

/-- patchbay/patchbaylaw20.Small -/
def law20_Small (x0 : List api_ControlNode) (x1 : Int) : Bool :=
  LET (law20_size x0 x1 12) fun y101 =>
  (decide (y101 ≤ x1))

def law20_works : Bool := true

def control_cloneAll_H_L1 (x0 : List api_ControlNode) (rec55_ : api_ControlNode → api_ControlNode) (K0 : (List api_ControlNode) → (List api_ControlNode)) : Nat → Int → (List api_ControlNode) → (List api_ControlNode)
  | 0, x8_, zE102 => K0 zE102
  | m + 1, x8_, zE102 =>
    LET (rec55_ (ix x0 x8_)) fun y109 =>
    control_cloneAll_H_L1 x0 rec55_ K0 m (x8_ + 1) (zE102 ++ ([y109] : List api_ControlNode))
/-- patchbay/control.cloneAll -/
def control_cloneAll_H (rec55_ : api_ControlNode → api_ControlNode) (x0 : List api_ControlNode) : (List api_ControlNode) :=
  control_cloneAll_H_L1 x0 rec55_ (fun (zE102_113 : List api_ControlNode) =>
      zE102_113) (Int.toNat ((x0.length : Int) - 0)) 0 ([] : List api_ControlNode)

/-- patchbay/control.clone -/
def control_clone_H (rec78_ : (List api_ControlNode) → (List api_ControlNode)) (x0 : api_ControlNode) : api_ControlNode :=
  LET (rec78_ x0.Then) fun y111 =>
  LET (rec78_ x0.Else) fun y113 =>
  ({ Kind := x0.Kind, Table := x0.Table, Cond := x0.Cond, Then := y111, Else := y113 } : api_ControlNode)

/-- patchbay/control.Node$1 -/
def control_Node_1 (x0 : api_ControlNode) (c0 : Int) (c1 : Int) (c2 : api_ControlNode) : Bool × Int × api_ControlNode :=
  if (decide (c0 = c1)) then
    LET (control_clone x0) fun y104 =>
    (false, c0, y104)
  else
  (true, (wr (c0 + 1)), c2)

/-- patchbay/control.Node -/
def control_Node (x0 : List api_ControlNode) (x1 : Int) : api_ControlNode × Bool :=
  LET (control_preorder (fun a_ s_ => control_Node_1 a_ s_.1 x1 s_.2) x0 (0, ({ Kind := 0, Table := 0, Cond := ([] : List api_ExprNode), Then := ([] : List api_ControlNode), Else := ([] : List api_ControlNode) } : api_ControlNode))) fun y108 =>
  (y108.2.2, (!y108.1))

def ref20_Preorder_L1 (x0 : List api_ControlNode) (rec_ : (List api_ControlNode) → (List api_ControlNode)) (K0 : (List api_ControlNode) → (List api_ControlNode)) : Nat → Int → (List api_ControlNode) → (List api_ControlNode)
  | 0, x4_, zE102 => K0 zE102
  | m + 1, x4_, zE102 =>
    LET (rec_ ((ix x0 x4_).Then)) fun y110 =>
    LET (rec_ ((ix x0 x4_).Else)) fun y115 =>
    ref20_Preorder_L1 x0 rec_ K0 m (x4_ + 1) (((zE102 ++ ([(ix x0 x4_)] : List api_ControlNode)) ++ y110) ++ y115)
/-- patchbay/patchbayref20.Preorder -/
def ref20_Preorder_B (rec_ : (List api_ControlNode) → (List api_ControlNode)) (x0 : List api_ControlNode) : (List api_ControlNode) :=
  ref20_Preorder_L1 x0 rec_ (fun (zE102_118 : List api_ControlNode) =>
      zE102_118) (Int.toNat ((x0.length : Int) - 0)) 0 ([] : List api_ControlNode)
def ref20_Preorder_R : Nat → (List api_ControlNode) → (List api_ControlNode)
  | 0, x0 => []
  | n_ + 1, x0 => ref20_Preorder_B (ref20_Preorder_R n_) x0
def ref20_Preorder (x0 : List api_ControlNode) : (List api_ControlNode) := ref20_Preorder_R (csl x0 + 1) x0

/-- patchbay/patchbayref20.Node -/
def ref20_Node (x0 : List api_ControlNode) (x1 : Int) : api_ControlNode × Bool :=
  LET (ref20_Preorder x0) fun y103 =>
  if ((decide (x1 < 0)) || (decide ((y103.length : Int) ≤ x1))) then
    (({ Kind := 0, Table := 0, Cond := ([] : List api_ExprNode), Then := ([] : List api_ControlNode), Else := ([] : List api_ControlNode) } : api_ControlNode), false)
  else
  ((ix y103 x1), true)

/-- patchbay/control.Count$1 -/
def control_Count_1 (x0 : api_ControlNode) (c0 : Int) : Bool × Int :=
  (true, (wr (c0 + 1)))

/-- patchbay/control.Count -/
def control_Count (x0 : List api_ControlNode) : Int :=
  LET (control_preorder (fun a_ s_ => control_Count_1 a_ s_) x0 0) fun y104 =>
  y104.2

def ref20_Count_L1 (x0 : List api_ControlNode) (rec_ : (List api_ControlNode) → Int) (K0 : Int → Int) : Nat → Int → Int → Int
  | 0, x3_, x4_ => K0 x3_
  | m + 1, x3_, x4_ =>
    LET (rec_ ((ix x0 x4_).Then)) fun y105 =>
    LET (rec_ ((ix x0 x4_).Else)) fun y108 =>
    ref20_Count_L1 x0 rec_ K0 m (wr (x3_ + (wr ((wr (1 + y105)) + y108)))) (x4_ + 1)
/-- patchbay/patchbayref20.Count -/
def ref20_Count_B (rec_ : (List api_ControlNode) → Int) (x0 : List api_ControlNode) : Int :=
  ref20_Count_L1 x0 rec_ (fun (x3_109 : Int) =>
      x3_109) (Int.toNat ((x0.length : Int) - 0)) 0 0
def ref20_Count_R : Nat → (List api_ControlNode) → Int
  | 0, _ => default
  | n_ + 1, x0 => ref20_Count_B (ref20_Count_R n_) x0
def ref20_Count (x0 : List api_ControlNode) : Int := ref20_Count_R (csl x0 + 1) x0

def control_Nesting_L1 (x0 : List api_ControlNode) (rec_ : (List api_ControlNode) → Int) (K0 : Int → Int) : Nat → Int → Int → Int
  | 0, x3_, x11_ => K0 x3_
  | m + 1, x3_, x11_ =>
    LET (rec_ ((ix x0 x11_).Then)) fun y109 =>
    LET (rec_ ((ix x0 x11_).Else)) fun y111 =>
    control_Nesting_L1 x0 rec_ K0 m (max (max x3_ y109) y111) (x11_ + 1)
/-- patchbay/control.Nesting -/
def control_Nesting_B (rec_ : (List api_ControlNode) → Int) (x0 : List api_ControlNode) : Int :=
  if (decide ((x0.length : Int) = 0)) then
    0
  else
  control_Nesting_L1 x0 rec_ (fun (x3_112 : Int) =>
      (wr (x3_112 + 1))) (Int.toNat ((x0.length : Int) - 0)) 0 0
def control_Nesting_R : Nat → (List api_ControlNode) → Int
  | 0, _ => default
  | n_ + 1, x0 => control_Nesting_B (control_Nesting_R n_) x0
def control_Nesting (x0 : List api_ControlNode) : Int := control_Nesting_R (csl x0 + 1) x0

def ref20_Nesting_L1 (x0 : List api_ControlNode) (rec_ : (List api_ControlNode) → Int) (K0 : Int → Int) : Nat → Int → Int → Int
  | 0, x3_, x4_ => K0 x3_
  | m + 1, x3_, x4_ =>
    LET (rec_ ((ix x0 x4_).Then)) fun y105 =>
    LET (rec_ ((ix x0 x4_).Else)) fun y108 =>
    ref20_Nesting_L1 x0 rec_ K0 m (max (max x3_ (wr (1 + y105))) (wr (1 + y108))) (x4_ + 1)
/-- patchbay/patchbayref20.Nesting -/
def ref20_Nesting_B (rec_ : (List api_ControlNode) → Int) (x0 : List api_ControlNode) : Int :=
  ref20_Nesting_L1 x0 rec_ (fun (x3_109 : Int) =>
      x3_109) (Int.toNat ((x0.length : Int) - 0)) 0 0
def ref20_Nesting_R : Nat → (List api_ControlNode) → Int
  | 0, _ => default
  | n_ + 1, x0 => ref20_Nesting_B (ref20_Nesting_R n_) x0
def ref20_Nesting (x0 : List api_ControlNode) : Int := ref20_Nesting_R (csl x0 + 1) x0

/-- patchbay/control.applies -/
def control_applies (x0 : api_ControlNode) : Bool :=
  ((decide (x0.Kind = 1)) || (decide (x0.Kind = 3)))

/-- patchbay/control.Tables$1 -/
def control_Tables_1 (x0 : api_ControlNode) (c0 : List Int) : Bool × (List Int) :=
  LET (control_applies x0) fun y103 =>
  if y103 then
    (true, (c0 ++ ([x0.Table] : List Int)))
  else
  (true, c0)

/-- patchbay/control.Tables -/
def control_Tables (x0 : List api_ControlNode) : (List Int) :=
  LET (control_preorder (fun a_ s_ => control_Tables_1 a_ s_) x0 ([] : List Int)) fun y103 =>
  y103.2

/-- patchbay/patchbayref20.applies -/
def ref20_applies (x0 : api_ControlNode) : Bool :=
  ((decide (x0.Kind = 1)) || (decide (x0.Kind = 3)))

def ref20_Tables_L1 (y101 : (List api_ControlNode)) (K0 : (List Int) → (List Int)) : Nat → Int → (List Int) → (List Int)
  | 0, x5_, zE104 => K0 zE104
  | m + 1, x5_, zE104 =>
    LET (ref20_applies (ix y101 x5_)) fun y108 =>
    if y108 then
      ref20_Tables_L1 y101 K0 m (x5_ + 1) (zE104 ++ ([(ix y101 x5_).Table] : List Int))
    else
    ref20_Tables_L1 y101 K0 m (x5_ + 1) zE104
/-- patchbay/patchbayref20.Tables -/
def ref20_Tables (x0 : List api_ControlNode) : (List Int) :=
  LET (ref20_Preorder x0) fun y101 =>
  ref20_Tables_L1 y101 (fun (zE104_113 : List Int) =>
      zE104_113) (Int.toNat ((y101.length : Int) - 0)) 0 ([] : List Int)

def ref02_EqualInts_L1 (x0 : List Int) (x1 : List Int) (K0 : Unit → Bool) : Nat → Int → Bool
  | 0, x5_ => K0 ()
  | m + 1, x5_ =>
    if (!decide ((ix x0 x5_) = (ix x1 x5_))) then
      false
    else
    ref02_EqualInts_L1 x0 x1 K0 m (x5_ + 1)
/-- patchbay/patchbayref02.EqualInts -/
def ref02_EqualInts (x0 : List Int) (x1 : List Int) : Bool :=
  if (!decide ((x0.length : Int) = (x1.length : Int))) then
    false
  else
  ref02_EqualInts_L1 x0 x1 (fun (_ : Unit) =>
      true) (Int.toNat ((x0.length : Int) - 0)) 0

/-- patchbay/patchbayref13.used -/
def ref13_used (x0 : api_ExprNode) : api_ExprNode :=
  LET (fun (x5_105 : Bool) =>
    if x5_105 then
      x0
    else
    LET (fun (x10_111 : Bool) =>
      if x10_111 then
        ({ Op := x0.Op, N := x0.N, W := 0 } : api_ExprNode)
      else
      ({ Op := x0.Op, N := 0, W := 0 } : api_ExprNode)) fun k111 =>
    if (decide (x0.Op = 3)) then
      k111 (decide (x0.Op = 3))
    else
    if (decide (x0.Op = 4)) then
      k111 (decide (x0.Op = 4))
    else
    if (decide (x0.Op = 6)) then
      k111 (decide (x0.Op = 6))
    else
    k111 (decide (x0.Op = 7))) fun k105 =>
  if (decide (x0.Op = 1)) then
    k105 (decide (x0.Op = 1))
  else
  if (decide (x0.Op = 2)) then
    k105 (decide (x0.Op = 2))
  else
  k105 (decide (x0.Op = 8))

def ref13_EqualNodes_L1 (x0 : List api_ExprNode) (x1 : List api_ExprNode) (K0 : Unit → Bool) : Nat → Int → Bool
  | 0, x5_ => K0 ()
  | m + 1, x5_ =>
    LET (ref13_used (ix x0 x5_)) fun y105 =>
    LET (ref13_used (ix x1 x5_)) fun y108 =>
    if (!decide (y105 = y108)) then
      false
    else
    ref13_EqualNodes_L1 x0 x1 K0 m (x5_ + 1)
/-- patchbay/patchbayref13.EqualNodes -/
def ref13_EqualNodes (x0 : List api_ExprNode) (x1 : List api_ExprNode) : Bool :=
  if (!decide ((x0.length : Int) = (x1.length : Int))) then
    false
  else
  ref13_EqualNodes_L1 x0 x1 (fun (_ : Unit) =>
      true) (Int.toNat ((x0.length : Int) - 0)) 0

def ref20_Equal_L1 (x0 : List api_ControlNode) (x1 : List api_ControlNode) (rec_ : (List api_ControlNode) → (List api_ControlNode) → Bool) (K0 : Unit → Bool) : Nat → Int → Bool
  | 0, x5_ => K0 ()
  | m + 1, x5_ =>
    if ((((!decide (((ix x0 x5_).Kind) = ((ix x1 x5_).Kind))) || ((!decide (((ix x0 x5_).Kind) = 2)) && (!decide (((ix x0 x5_).Table) = ((ix x1 x5_).Table))))) || (!(rec_ ((ix x0 x5_).Then) ((ix x1 x5_).Then)))) || (!(rec_ ((ix x0 x5_).Else) ((ix x1 x5_).Else)))) then
      false
    else
    if ((decide (((ix x0 x5_).Kind) = 2)) && (!(ref13_EqualNodes ((ix x0 x5_).Cond) ((ix x1 x5_).Cond)))) then
      false
    else
    ref20_Equal_L1 x0 x1 rec_ K0 m (x5_ + 1)
/-- patchbay/patchbayref20.Equal -/
def ref20_Equal_B (rec_ : (List api_ControlNode) → (List api_ControlNode) → Bool) (x0 : List api_ControlNode) (x1 : List api_ControlNode) : Bool :=
  if (!decide ((x0.length : Int) = (x1.length : Int))) then
    false
  else
  ref20_Equal_L1 x0 x1 rec_ (fun (_ : Unit) =>
      true) (Int.toNat ((x0.length : Int) - 0)) 0
def ref20_Equal_R : Nat → (List api_ControlNode) → (List api_ControlNode) → Bool
  | 0, _, _ => default
  | n_ + 1, x0, x1 => ref20_Equal_B (ref20_Equal_R n_) x0 x1
def ref20_Equal (x0 : List api_ControlNode) (x1 : List api_ControlNode) : Bool := ref20_Equal_R (csl x0 + 1) x0 x1

/-- patchbay/patchbaylaw20.ControlQueries -/
def law20_ControlQueries (x0 : List api_ControlNode) (x1 : Int) : Bool :=
  LET (law20_Small x0 60) fun y101 =>
  if (!y101) then
    LET (law20_works) fun y103 =>
    y103
  else
  LET (control_Node x0 x1) fun y104 =>
  LET (ref20_Node x0 x1) fun y109 =>
  LET (control_Count x0) fun y114 =>
  LET (ref20_Count x0) fun y115 =>
  ((((((decide (y114 = y115)) && (decide ((control_Nesting x0) = (ref20_Nesting x0)))) && (ref02_EqualInts (control_Tables x0) (ref20_Tables x0))) && (ref20_Equal ([y104.1] : List api_ControlNode) ([y109.1] : List api_ControlNode))) && (decide (y104.2 = y109.2))) && (law20_works))

end Go.Proofs.Ytkgnjpoafilicaa
