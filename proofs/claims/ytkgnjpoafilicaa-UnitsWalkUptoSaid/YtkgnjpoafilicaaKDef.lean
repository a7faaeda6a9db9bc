/-
  Each function of this seat az0 a plain program.
-/
import Derived.Test.YtkgnjpoafilicaaKTy
import Derived.Test.YtkgnjpoafilicaaPbC
import Derived.Test.YtkgnjpoafilicaaKMuUm
set_option linter.unusedVariables false
set_option linter.unusedSimpArgs false
set_option maxRecDepth 100000
namespace Go.Proofs.Ytkgnjpoafilicaa
open Go Go.Pb Go.RowKit
def law16_Small_L2 (x0 : api_Program) (x3_ : Int) (K2 : Unit → Bool) : Nat → Int → Bool
  | 0, x4_ => K2 ()
  | m + 1, x4_ =>
    if ((decide (60 < (((ix ((ix x0.Actions x3_).Body) x4_).Index).length : Int))) || (decide (60 < (((ix ((ix x0.Actions x3_).Body) x4_).Value).length : Int)))) then
      false
    else
    law16_Small_L2 x0 x3_ K2 m (x4_ + 1)
def law16_Small_L1 (x0 : api_Program) (K0 : Unit → Bool) : Nat → Int → Bool
  | 0, x3_ => K0 ()
  | m + 1, x3_ =>
    if ((decide (20 < (((ix x0.Actions x3_).Params).length : Int))) || (decide (30 < (((ix x0.Actions x3_).Body).length : Int)))) then
      false
    else
    law16_Small_L2 x0 x3_ (fun (_ : Unit) =>
        law16_Small_L1 x0 K0 m (x3_ + 1)) (Int.toNat ((((ix x0.Actions x3_).Body).length : Int) - 0)) 0
def law16_Small_L3 (x0 : api_Program) (K4 : Unit → Bool) : Nat → Int → Bool
  | 0, x5_ => K4 ()
  | m + 1, x5_ =>
    if (decide (40 < (((ix x0.Headers x5_).Fields).length : Int))) then
      false
    else
    law16_Small_L3 x0 K4 m (x5_ + 1)
def law16_Small_L4 (x0 : api_Program) (K6 : Unit → Bool) : Nat → Int → Bool
  | 0, x6_ => K6 ()
  | m + 1, x6_ =>
    if (decide (200 < ((ix x0.Registers x6_).Size))) then
      false
    else
    law16_Small_L4 x0 K6 m (x6_ + 1)
/-- patchbay/patchbaylaw16.Small -/
def law16_Small (x0 : api_Program) : Bool :=
  if ((((decide (20 < (x0.Headers.length : Int))) || (decide (30 < (x0.Metadata.length : Int)))) || (decide (20 < (x0.Registers.length : Int)))) || (decide (40 < (x0.Actions.length : Int)))) then
    false
  else
  law16_Small_L1 x0 (fun (_ : Unit) =>
      law16_Small_L3 x0 (fun (_ : Unit) =>
          law16_Small_L4 x0 (fun (_ : Unit) =>
              true) (Int.toNat ((x0.Registers.length : Int) - 0)) 0) (Int.toNat ((x0.Headers.length : Int) - 0)) 0) (Int.toNat ((x0.Actions.length : Int) - 0)) 0

def law22_blocks_L1 (x0 : List api_ControlNode) (x1 : Int) (x2 : Int) (rec_ : (List api_ControlNode) → Int → Int → Int) (K0 : Int → Int) : Nat → Int → Int → Int
  | 0, x7_, x8_ => K0 x7_
  | m + 1, x7_, x8_ =>
    if ((decide (x8_ < (x0.length : Int))) && (decide (x7_ ≤ x2))) then
      LET (rec_ ((ix x0 x8_).Then) (wr (x1 + 1)) x2) fun y109 =>
      LET (rec_ ((ix x0 x8_).Else) (wr (x1 + 1)) x2) fun y112 =>
      law22_blocks_L1 x0 x1 x2 rec_ K0 m (wr (x7_ + (wr ((wr (y109 + y112)) + (wr (Int.tdiv (((ix x0 x8_).Cond).length : Int) 20)))))) (x8_ + 1)
    else
    K0 x7_
/-- patchbay/patchbaylaw22.blocks -/
def law22_blocks_B (rec_ : (List api_ControlNode) → Int → Int → Int) (x0 : List api_ControlNode) (x1 : Int) (x2 : Int) : Int :=
  if ((decide (x2 < (x0.length : Int))) || (decide (20 < x1))) then
    (wr (x2 + 1))
  else
  law22_blocks_L1 x0 x1 x2 rec_ (fun (x7_115 : Int) =>
      x7_115) (Int.toNat ((x0.length : Int) - 0)) (x0.length : Int) 0
def law22_blocks_R : Nat → (List api_ControlNode) → Int → Int → Int
  | 0, _, _, _ => default
  | n_ + 1, x0, x1, x2 => law22_blocks_B (law22_blocks_R n_) x0 x1 x2
def law22_blocks (x0 : List api_ControlNode) (x1 : Int) (x2 : Int) : Int := law22_blocks_R (csl x0 + 1) x0 x1 x2

def law22_Small_L1 (x0 : api_Program) (K0 : Unit → Bool) : Nat → Int → Bool
  | 0, x3_ => K0 ()
  | m + 1, x3_ =>
    if (((decide (20 < (((ix x0.Tables x3_).Keys).length : Int))) || (decide (40 < (((ix x0.Tables x3_).Actions).length : Int)))) || (decide (40 < ((((ix x0.Tables x3_).Default).Args).length : Int)))) then
      false
    else
    law22_Small_L1 x0 K0 m (x3_ + 1)
def law22_Small_L2 (x0 : api_Program) (K2 : Unit → Bool) : Nat → Int → Bool
  | 0, x4_ => K2 ()
  | m + 1, x4_ =>
    if ((decide (20 < (((ix x0.States x4_).Extract).length : Int))) || (decide (20 < (((ix x0.States x4_).Cases).length : Int)))) then
      false
    else
    law22_Small_L2 x0 K2 m (x4_ + 1)
/-- patchbay/patchbaylaw22.Small -/
def law22_Small (x0 : api_Program) : Bool :=
  LET (law16_Small x0) fun y101 =>
  if (((((!y101) || (decide (30 < (x0.Tables.length : Int)))) || (decide (30 < (x0.States.length : Int)))) || (decide (30 < (x0.Deparser.length : Int)))) || (decide (60 < (law22_blocks x0.Control 0 60)))) then
    false
  else
  law22_Small_L1 x0 (fun (_ : Unit) =>
      law22_Small_L2 x0 (fun (_ : Unit) =>
          true) (Int.toNat ((x0.States.length : Int) - 0)) 0) (Int.toNat ((x0.Tables.length : Int) - 0)) 0

def law32_awake : Bool := true

/-- patchbay/control.Count$1 -/
def control_Count_1 (x0 : api_ControlNode) (c0 : Int) : Bool × Int :=
  (true, (wr (c0 + 1)))

/-- patchbay/control.Count -/
def control_Count (x0 : List api_ControlNode) : Int :=
  LET (control_preorder (fun a_ s_ => control_Count_1 a_ s_) x0 0) fun y104 =>
  y104.2

def control_Nesting_L1 (x0 : List api_ControlNode) (rec_ : (List api_ControlNode) → Int) (K0 : Int → Int) : Nat → Int → Int → Int
  | 0, x3_, x11_ => K0 x3_
  | m + 1, x3_, x11_ =>
    LET (rec_ ((ix x0 x11_).Then)) fun y109 =>
    LET (rec_ ((ix x0 x11_).Else)) fun y111 =>
    control_Nesting_L1 x0 rec_ K0 m (max (max x3_ y109) y111) (x11_ + 1)
/-- patchbay/control.Nesting -/
def control_Nesting_B (rec_ : (List api_ControlNode) → Int) (x0 : List api_ControlNode) : Int :=
  if (decide ((x0.length : Int) = 0)) then
    0
  else
  control_Nesting_L1 x0 rec_ (fun (x3_112 : Int) =>
      (wr (x3_112 + 1))) (Int.toNat ((x0.length : Int) - 0)) 0 0
def control_Nesting_R : Nat → (List api_ControlNode) → Int
  | 0, _ => default
  | n_ + 1, x0 => control_Nesting_B (control_Nesting_R n_) x0
def control_Nesting (x0 : List api_ControlNode) : Int := control_Nesting_R (csl x0 + 1) x0

/-- patchbay/expr.arity -/
def expr_arity (x0 : Int) : Int :=
  LET (fun (x4_104 : Bool) =>
    if x4_104 then
      0
    else
    LET (fun (x9_109 : Bool) =>
      if x9_109 then
        1
      else
      LET (fun (x14_118 : Bool) =>
        if x14_118 then
          2
        else
        if (decide (x0 = 17)) then
          3
        else
        (-1)) fun k118 =>
      if (decide (x0 = 9)) then
        k118 (decide (x0 = 9))
      else
      if (decide (x0 = 10)) then
        k118 (decide (x0 = 10))
      else
      if (decide (x0 = 11)) then
        k118 (decide (x0 = 11))
      else
      if (decide (x0 = 12)) then
        k118 (decide (x0 = 12))
      else
      if (decide (x0 = 13)) then
        k118 (decide (x0 = 13))
      else
      if (decide (x0 = 14)) then
        k118 (decide (x0 = 14))
      else
      if (decide (x0 = 15)) then
        k118 (decide (x0 = 15))
      else
      k118 (decide (x0 = 16))) fun k109 =>
    if (decide (x0 = 5)) then
      k109 (decide (x0 = 5))
    else
    if (decide (x0 = 6)) then
      k109 (decide (x0 = 6))
    else
    if (decide (x0 = 7)) then
      k109 (decide (x0 = 7))
    else
    k109 (decide (x0 = 8))) fun k104 =>
  if (decide (x0 = 1)) then
    k104 (decide (x0 = 1))
  else
  if (decide (x0 = 2)) then
    k104 (decide (x0 = 2))
  else
  if (decide (x0 = 3)) then
    k104 (decide (x0 = 3))
  else
  k104 (decide (x0 = 4))

/-- patchbay/expr.wide -/
def expr_wide (x0 : Int) : Int × Int :=
  if ((decide (x0 < 1)) || (decide (32 < x0))) then
    (0, 10)
  else
  (x0, 0)

def bitvec_valid_L1 (x0 : List Int) (K0 : Unit → Bool) : Nat → Int → Bool
  | 0, x7_ => K0 ()
  | m + 1, x7_ =>
    if ((decide ((ix x0 x7_) < 1)) || (decide (32 < (ix x0 x7_)))) then
      false
    else
    bitvec_valid_L1 x0 K0 m (x7_ + 1)
/-- patchbay/bitvec.valid -/
def bitvec_valid (x0 : List Int) : Bool :=
  bitvec_valid_L1 x0 (fun (_ : Unit) =>
      true) (Int.toNat ((x0.length : Int) - 0)) 0

/-- patchbay/bitvec.Mask -/
def bitvec_Mask (x0 : Int) : (BitVec 32) :=
  LET (bitvec_valid ([x0] : List Int)) fun y102 =>
  if (!y102) then
    0#32
  else
  (4294967295#32 >>> (wr (32 - x0)).toNat)

/-- (patchbay/expr.Scope).field -/
def m1_expr_Scope__field (x0 : expr_Scope) (x1 : Int) (x2 : Int) : api_Field × Bool :=
  LET (fun (x8_115 : List api_Field) =>
    if ((decide (x2 < 0)) || (decide ((x8_115.length : Int) ≤ x2))) then
      (({ Name := ([] : List UInt8), Width := 0 } : api_Field), false)
    else
    ((ix x8_115 x2), true)) fun k115 =>
  if (!decide (x1 = (-1))) then
    if ((decide (x1 < 0)) || (decide ((x0.Program.Headers.length : Int) ≤ x1))) then
      (({ Name := ([] : List UInt8), Width := 0 } : api_Field), false)
    else
    k115 ((ix x0.Program.Headers x1).Fields)
  else
  k115 x0.Program.Metadata

/-- (patchbay/expr.Scope).primary -/
def m1_expr_Scope__primary (x0 : expr_Scope) (x1 : api_ExprNode) : Int × Int :=
  if (decide (x1.Op = 1)) then
    LET (expr_wide x1.W) fun y102 =>
    if ((decide (y102.2 = 0)) && ((decide (x1.N < 0)) || (decide (((bitvec_Mask y102.1).toNat : Int) < x1.N)))) then
      (0, 9)
    else
    (y102.1, y102.2)
  else
  if (decide (x1.Op = 2)) then
    LET (m1_expr_Scope__field x0 x1.N x1.W) fun y108 =>
    if (!y108.2) then
      (0, 8)
    else
    LET (expr_wide y108.1.Width) fun y114 =>
    (y114.1, y114.2)
  else
  if (decide (x1.Op = 3)) then
    if ((decide (x1.N < 0)) || (decide ((x0.Params.length : Int) ≤ x1.N))) then
      (0, 8)
    else
    LET (expr_wide ((ix x0.Params x1.N).Width)) fun y121 =>
    (y121.1, y121.2)
  else
  if ((decide (x1.N < 0)) || (decide ((x0.Program.Headers.length : Int) ≤ x1.N))) then
    (0, 8)
  else
  (1, 0)

/-- patchbay/expr.combine -/
def expr_combine (x0 : api_ExprNode) (x1 : List Int) : Int × Int :=
  LET (fun (x10_102 : Bool) =>
    if x10_102 then
      if ((decide (x0.N < 0)) || (decide (31 < x0.N))) then
        (0, 9)
      else
      LET (expr_arity x0.Op) fun y106 =>
      if ((decide (y106 = 2)) && (!decide ((ix x1 0) = (ix x1 1)))) then
        (0, 10)
      else
      if ((decide (x0.Op = 15)) || (decide (x0.Op = 16))) then
        (1, 0)
      else
      ((ix x1 0), 0)
    else
    if (decide (x0.Op = 8)) then
      if (decide (x0.N < 0)) then
        (0, 9)
      else
      LET (expr_wide x0.W) fun y116 =>
      if ((!decide (y116.2 = 0)) || (decide ((wr ((ix x1 0) - x0.W)) < x0.N))) then
        (0, 10)
      else
      (x0.W, 0)
    else
    if (decide (x0.Op = 14)) then
      LET (expr_wide (wr ((ix x1 0) + (ix x1 1)))) fun y123 =>
      (y123.1, y123.2)
    else
    if (decide (x0.Op = 17)) then
      if ((!decide ((ix x1 0) = 1)) || (!decide ((ix x1 1) = (ix x1 2)))) then
        (0, 10)
      else
      ((ix x1 1), 0)
    else
    LET (expr_arity x0.Op) fun y131 =>
    if ((decide (y131 = 2)) && (!decide ((ix x1 0) = (ix x1 1)))) then
      (0, 10)
    else
    if ((decide (x0.Op = 15)) || (decide (x0.Op = 16))) then
      (1, 0)
    else
    ((ix x1 0), 0)) fun k102 =>
  if (decide (x0.Op = 6)) then
    k102 (decide (x0.Op = 6))
  else
  k102 (decide (x0.Op = 7))

def m1_expr_Scope__check_L1 (x0 : expr_Scope) (x1 : List api_ExprNode) (rec_ : expr_Scope → (List api_ExprNode) → Int → (Int × Int × Int)) (K1 : Int → (List Int) → (Int × Int × Int)) : Nat → Int → Int → (List Int) → (Int × Int × Int)
  | 0, x7_, x44_, zE109 => K1 x7_ zE109
  | m + 1, x7_, x44_, zE109 =>
    LET (rec_ x0 x1 x7_) fun y112 =>
    if (!decide (y112.2.2 = 0)) then
      (0, 0, y112.2.2)
    else
    m1_expr_Scope__check_L1 x0 x1 rec_ K1 m y112.2.1 (x44_ + 1) (zE109.set x44_.toNat y112.1)
/-- (patchbay/expr.Scope).check -/
def m1_expr_Scope__check_B (rec_ : expr_Scope → (List api_ExprNode) → Int → (Int × Int × Int)) (x0 : expr_Scope) (x1 : List api_ExprNode) (x2 : Int) : Int × Int × Int :=
  if (decide ((x1.length : Int) ≤ x2)) then
    (0, 0, 3)
  else
  LET (expr_arity ((ix x1 x2).Op)) fun y103 =>
  if (decide (y103 < 0)) then
    (0, 0, 11)
  else
  if (decide (y103 = 0)) then
    LET (m1_expr_Scope__primary x0 (ix x1 x2)) fun y107 =>
    (y107.1, (wr (x2 + 1)), y107.2)
  else
  m1_expr_Scope__check_L1 x0 x1 rec_ (fun (x7_116 : Int) (zE109_116 : List Int) =>
      LET (expr_combine (ix x1 x2) zE109_116) fun y118 =>
      (y118.1, x7_116, y118.2)) (Int.toNat (y103 - 0)) (wr (x2 + 1)) 0 ([0, 0, 0] : List Int)
def m1_expr_Scope__check_R : Nat → expr_Scope → (List api_ExprNode) → Int → (Int × Int × Int)
  | 0, x0, x1, x2 => (0, 0, 1)
  | n_ + 1, x0, x1, x2 => m1_expr_Scope__check_B (m1_expr_Scope__check_R n_) x0 x1 x2
def m1_expr_Scope__check (x0 : expr_Scope) (x1 : List api_ExprNode) (x2 : Int) : Int × Int × Int := m1_expr_Scope__check_R ((x1.length - x2.toNat) + 1) x0 x1 x2

/-- patchbay/expr.Check -/
def expr_Check (x0 : List api_ExprNode) (x1 : expr_Scope) : Int × Int :=
  if (decide (24 < (x0.length : Int))) then
    (0, 12)
  else
  LET (m1_expr_Scope__check x1 x0 0) fun y102 =>
  if (!decide (y102.2.2 = 0)) then
    (0, y102.2.2)
  else
  if (decide (y102.2.1 < (x0.length : Int))) then
    (0, 4)
  else
  (y102.1, 0)

def control_checkNode_L1 (x1 : api_ControlNode) (x2 : List Int) (K1 : Unit → Int) : Nat → Int → Int
  | 0, x29_ => K1 ()
  | m + 1, x29_ =>
    if (decide ((ix x2 x29_) = x1.Table)) then
      7
    else
    control_checkNode_L1 x1 x2 K1 m (x29_ + 1)
/-- patchbay/control.checkNode -/
def control_checkNode (x0 : api_Program) (x1 : api_ControlNode) (x2 : List Int) : Int :=
  LET (fun (x13_102 : Bool) =>
    if x13_102 then
      if ((decide (x1.Table < 0)) || (decide ((x0.Tables.length : Int) ≤ x1.Table))) then
        8
      else
      control_checkNode_L1 x1 x2 (fun (_ : Unit) =>
          if ((decide (x1.Kind = 1)) && (decide (0 < (wr ((x1.Then.length : Int) + (x1.Else.length : Int)))))) then
            5
          else
          0) (Int.toNat ((x2.length : Int) - 0)) 0
    else
    if (decide (x1.Kind = 2)) then
      LET (expr_Check x1.Cond ({ Program := x0, Params := ([] : List api_Field) } : expr_Scope)) fun y118 =>
      if (!decide (y118.2 = 0)) then
        y118.2
      else
      if (!decide (y118.1 = 1)) then
        10
      else
      0
    else
    11) fun k102 =>
  if (decide (x1.Kind = 1)) then
    k102 (decide (x1.Kind = 1))
  else
  k102 (decide (x1.Kind = 3))

/-- patchbay/control.applies -/
def control_applies (x0 : api_ControlNode) : Bool :=
  ((decide (x0.Kind = 1)) || (decide (x0.Kind = 3)))

/-- patchbay/control.Check$1 -/
def control_Check_1 (x0 : api_ControlNode) (c0 : api_Program) (c1 : List Int) (c2 : Int) (c3 : Int) : Bool × (List Int) × Int × Int :=
  LET (control_checkNode c0 x0 c1) fun y105 =>
  if (!decide (y105 = 0)) then
    (false, c1, y105, c3)
  else
  LET (control_applies x0) fun y110 =>
  if y110 then
    (true, (c1 ++ ([x0.Table] : List Int)), y105, (wr (c3 + 1)))
  else
  (true, c1, y105, (wr (c3 + 1)))

/-- patchbay/control.Check -/
def control_Check (x0 : api_Program) : Int × Int :=
  LET (control_Count x0.Control) fun y104 =>
  if (decide (24 < y104)) then
    ((-1), 12)
  else
  LET (control_Nesting x0.Control) fun y108 =>
  if (decide (6 < y108)) then
    ((-1), 14)
  else
  LET (control_preorder (fun a_ s_ => control_Check_1 a_ x0 s_.1 s_.2.1 s_.2.2) x0.Control (([] : List Int), 0, 0)) fun y118 =>
  if (!decide (y118.2.2.1 = 0)) then
    (y118.2.2.2, y118.2.2.1)
  else
  (0, 0)

/-- patchbay/units.Build$1$1 -/
def units_Build_1_1 (x0 : Bool) (c0 : List api_Guard) (c1 : Int) : (List api_Guard) :=
  LET (slices_Clone__api_Guard_api_Guard_ c0) fun y101 =>
  (y101 ++ ([({ Unit := c1, Want := x0 } : api_Guard)] : List api_Guard))

def units_Build_1_L1 (x0 : List api_ControlNode) (x1 : List api_Guard) (rec_ : (List api_ControlNode) → (List api_Guard) → (List api_Unit) → (List api_Unit)) (K0 : (List api_Unit) → (List api_Unit)) : Nat → Int → (List api_Unit) → (List api_Unit)
  | 0, x13_, zE102 => K0 zE102
  | m + 1, x13_, zE102 =>
    LET (slices_Clone__api_Guard_api_Guard_ x1) fun y110 =>
    if (decide (((ix x0 x13_).Kind) = 2)) then
      LET (slices_Clone__api_ExprNode_api_ExprNode_ ((ix x0 x13_).Cond)) fun y118 =>
      LET (rec_ ((ix x0 x13_).Then) ((fun a_ => units_Build_1_1 a_ x1 (zE102.length : Int)) true) (zE102 ++ ([({ Table := (-1), Cond := y118, Guards := y110 } : api_Unit)] : List api_Unit))) fun y131 =>
      LET (rec_ ((ix x0 x13_).Else) ((fun a_ => units_Build_1_1 a_ x1 (zE102.length : Int)) false) y131) fun y135 =>
      units_Build_1_L1 x0 x1 rec_ K0 m (x13_ + 1) y135
    else
    LET (rec_ ((ix x0 x13_).Then) ((fun a_ => units_Build_1_1 a_ x1 (zE102.length : Int)) true) (zE102 ++ ([({ Table := (ix x0 x13_).Table, Cond := ([] : List api_ExprNode), Guards := y110 } : api_Unit)] : List api_Unit))) fun y147 =>
    LET (rec_ ((ix x0 x13_).Else) ((fun a_ => units_Build_1_1 a_ x1 (zE102.length : Int)) false) y147) fun y151 =>
    units_Build_1_L1 x0 x1 rec_ K0 m (x13_ + 1) y151
/-- patchbay/units.Build$1 -/
def units_Build_1_B (rec_ : (List api_ControlNode) → (List api_Guard) → (List api_Unit) → (List api_Unit)) (x0 : List api_ControlNode) (x1 : List api_Guard) (c0 : List api_Unit) : (List api_Unit) :=
  units_Build_1_L1 x0 x1 rec_ (fun (zE102_153 : List api_Unit) =>
      zE102_153) (Int.toNat ((x0.length : Int) - 0)) 0 c0
def units_Build_1_R : Nat → (List api_ControlNode) → (List api_Guard) → (List api_Unit) → (List api_Unit)
  | 0, x0, x1, c0 => c0
  | n_ + 1, x0, x1, c0 => units_Build_1_B (units_Build_1_R n_) x0 x1 c0
def units_Build_1 (x0 : List api_ControlNode) (x1 : List api_Guard) (c0 : List api_Unit) : (List api_Unit) := units_Build_1_R (csl x0 + 1) x0 x1 c0

/-- patchbay/units.Build -/
def units_Build (x0 : api_Program) : (List api_Unit) :=
  LET (control_Check x0) fun y101 =>
  if (!decide (y101.2 = 0)) then
    ([] : List api_Unit)
  else
  LET (units_Build_1 x0.Control ([] : List api_Guard) ([] : List api_Unit)) fun y110 =>
  y110

def ref20_Count_L1 (x0 : List api_ControlNode) (rec_ : (List api_ControlNode) → Int) (K0 : Int → Int) : Nat → Int → Int → Int
  | 0, x3_, x4_ => K0 x3_
  | m + 1, x3_, x4_ =>
    LET (rec_ ((ix x0 x4_).Then)) fun y105 =>
    LET (rec_ ((ix x0 x4_).Else)) fun y108 =>
    ref20_Count_L1 x0 rec_ K0 m (wr (x3_ + (wr ((wr (1 + y105)) + y108)))) (x4_ + 1)
/-- patchbay/patchbayref20.Count -/
def ref20_Count_B (rec_ : (List api_ControlNode) → Int) (x0 : List api_ControlNode) : Int :=
  ref20_Count_L1 x0 rec_ (fun (x3_109 : Int) =>
      x3_109) (Int.toNat ((x0.length : Int) - 0)) 0 0
def ref20_Count_R : Nat → (List api_ControlNode) → Int
  | 0, _ => default
  | n_ + 1, x0 => ref20_Count_B (ref20_Count_R n_) x0
def ref20_Count (x0 : List api_ControlNode) : Int := ref20_Count_R (csl x0 + 1) x0

def ref20_Nesting_L1 (x0 : List api_ControlNode) (rec_ : (List api_ControlNode) → Int) (K0 : Int → Int) : Nat → Int → Int → Int
  | 0, x3_, x4_ => K0 x3_
  | m + 1, x3_, x4_ =>
    LET (rec_ ((ix x0 x4_).Then)) fun y105 =>
    LET (rec_ ((ix x0 x4_).Else)) fun y108 =>
    ref20_Nesting_L1 x0 rec_ K0 m (max (max x3_ (wr (1 + y105))) (wr (1 + y108))) (x4_ + 1)
/-- patchbay/patchbayref20.Nesting -/
def ref20_Nesting_B (rec_ : (List api_ControlNode) → Int) (x0 : List api_ControlNode) : Int :=
  ref20_Nesting_L1 x0 rec_ (fun (x3_109 : Int) =>
      x3_109) (Int.toNat ((x0.length : Int) - 0)) 0 0
def ref20_Nesting_R : Nat → (List api_ControlNode) → Int
  | 0, _ => default
  | n_ + 1, x0 => ref20_Nesting_B (ref20_Nesting_R n_) x0
def ref20_Nesting (x0 : List api_ControlNode) : Int := ref20_Nesting_R (csl x0 + 1) x0

def ref20_Preorder_L1 (x0 : List api_ControlNode) (rec_ : (List api_ControlNode) → (List api_ControlNode)) (K0 : (List api_ControlNode) → (List api_ControlNode)) : Nat → Int → (List api_ControlNode) → (List api_ControlNode)
  | 0, x4_, zE102 => K0 zE102
  | m + 1, x4_, zE102 =>
    LET (rec_ ((ix x0 x4_).Then)) fun y110 =>
    LET (rec_ ((ix x0 x4_).Else)) fun y115 =>
    ref20_Preorder_L1 x0 rec_ K0 m (x4_ + 1) (((zE102 ++ ([(ix x0 x4_)] : List api_ControlNode)) ++ y110) ++ y115)
/-- patchbay/patchbayref20.Preorder -/
def ref20_Preorder_B (rec_ : (List api_ControlNode) → (List api_ControlNode)) (x0 : List api_ControlNode) : (List api_ControlNode) :=
  ref20_Preorder_L1 x0 rec_ (fun (zE102_118 : List api_ControlNode) =>
      zE102_118) (Int.toNat ((x0.length : Int) - 0)) 0 ([] : List api_ControlNode)
def ref20_Preorder_R : Nat → (List api_ControlNode) → (List api_ControlNode)
  | 0, x0 => []
  | n_ + 1, x0 => ref20_Preorder_B (ref20_Preorder_R n_) x0
def ref20_Preorder (x0 : List api_ControlNode) : (List api_ControlNode) := ref20_Preorder_R (csl x0 + 1) x0

/-- patchbay/patchbayref13.Arity -/
def ref13_Arity (x0 : Int) : Int :=
  if ((decide (1 ≤ x0)) && (decide (x0 ≤ 4))) then
    0
  else
  if ((decide (5 ≤ x0)) && (decide (x0 ≤ 8))) then
    1
  else
  if ((decide (9 ≤ x0)) && (decide (x0 ≤ 16))) then
    2
  else
  if (decide (x0 = 17)) then
    3
  else
  (-1)

/-- patchbay/patchbayref13.wide -/
def ref13_wide (x0 : Int) : Int × Int :=
  if ((decide (x0 < 1)) || (decide (32 < x0))) then
    (0, 10)
  else
  (x0, 0)

/-- patchbay/patchbayref01.valid -/
def ref01_valid (x0 : Int) : Bool :=
  ((decide (1 ≤ x0)) && (decide (x0 ≤ 32)))

def ref01_power_L1 (K0 : (BitVec 64) → (BitVec 64)) : Nat → (BitVec 64) → Int → (BitVec 64)
  | 0, x3_, x4_ => K0 x3_
  | m + 1, x3_, x4_ =>
    ref01_power_L1 K0 m (2#64 * x3_) (x4_ + 1)
/-- patchbay/patchbayref01.power -/
def ref01_power (x0 : Int) : (BitVec 64) :=
  ref01_power_L1 (fun (x3_103 : BitVec 64) =>
      x3_103) (Int.toNat (x0 - 0)) 1#64 0

/-- patchbay/patchbayref01.Mask -/
def ref01_Mask (x0 : Int) : (BitVec 32) :=
  LET (ref01_valid x0) fun y101 =>
  if (!y101) then
    0#32
  else
  LET (ref01_power x0) fun y103 =>
  (BitVec.setWidth 32 (y103 - 1#64))

/-- patchbay/patchbayref13.Declared -/
def ref13_Declared (x0 : api_Program) (x1 : api_FieldRef) : Int × Bool :=
  LET (fun (x6_109 : List api_Field) =>
    if ((decide (x1.Field < 0)) || (decide ((x6_109.length : Int) ≤ x1.Field))) then
      (0, false)
    else
    ((ix x6_109 x1.Field).Width, true)) fun k109 =>
  if (!decide (x1.Header = (-1))) then
    if ((decide (x1.Header < 0)) || (decide ((x0.Headers.length : Int) ≤ x1.Header))) then
      (0, false)
    else
    k109 ((ix x0.Headers x1.Header).Fields)
  else
  k109 x0.Metadata

/-- patchbay/patchbayref13.leaf -/
def ref13_leaf (x0 : api_ExprNode) (x1 : expr_Scope) : Int × Int :=
  if (decide (x0.Op = 1)) then
    LET (ref13_wide x0.W) fun y102 =>
    if ((decide (y102.2 = 0)) && ((decide (x0.N < 0)) || (decide (((ref01_Mask y102.1).toNat : Int) < x0.N)))) then
      (0, 9)
    else
    (y102.1, y102.2)
  else
  if (decide (x0.Op = 2)) then
    LET (ref13_Declared x1.Program ({ Header := x0.N, Field := x0.W } : api_FieldRef)) fun y109 =>
    if (!y109.2) then
      (0, 8)
    else
    LET (ref13_wide y109.1) fun y111 =>
    (y111.1, y111.2)
  else
  if (decide (x0.Op = 3)) then
    if ((decide (x0.N < 0)) || (decide ((x1.Params.length : Int) ≤ x0.N))) then
      (0, 8)
    else
    LET (ref13_wide ((ix x1.Params x0.N).Width)) fun y118 =>
    (y118.1, y118.2)
  else
  if ((decide (x0.N < 0)) || (decide ((x1.Program.Headers.length : Int) ≤ x0.N))) then
    (0, 8)
  else
  (1, 0)

/-- patchbay/patchbayref13.operator -/
def ref13_operator (x0 : api_ExprNode) (x1 : List Int) : Int × Int :=
  if (decide (x0.Op = 5)) then
    ((ix x1 0), 0)
  else
  LET (fun (x13_103 : Bool) =>
    if x13_103 then
      if ((decide (x0.N < 0)) || (decide (31 < x0.N))) then
        (0, 9)
      else
      ((ix x1 0), 0)
    else
    if (decide (x0.Op = 8)) then
      if (decide (x0.N < 0)) then
        (0, 9)
      else
      if (((decide (x0.W < 1)) || (decide (32 < x0.W))) || (decide ((wr ((ix x1 0) - x0.W)) < x0.N))) then
        (0, 10)
      else
      (x0.W, 0)
    else
    if (decide (x0.Op = 14)) then
      LET (ref13_wide (wr ((ix x1 0) + (ix x1 1)))) fun y113 =>
      (y113.1, y113.2)
    else
    if (decide (x0.Op = 17)) then
      if ((!decide ((ix x1 0) = 1)) || (!decide ((ix x1 1) = (ix x1 2)))) then
        (0, 10)
      else
      ((ix x1 1), 0)
    else
    if (!decide ((ix x1 0) = (ix x1 1))) then
      (0, 10)
    else
    if ((decide (x0.Op = 15)) || (decide (x0.Op = 16))) then
      (1, 0)
    else
    ((ix x1 0), 0)) fun k103 =>
  if (decide (x0.Op = 6)) then
    k103 (decide (x0.Op = 6))
  else
  k103 (decide (x0.Op = 7))

def ref13_check_L1 (x0 : List api_ExprNode) (x2 : expr_Scope) (rec_ : (List api_ExprNode) → Int → expr_Scope → (Int × Int × Int)) (K0 : Int → (List Int) → (Int × Int × Int)) : Nat → Int → Int → (List Int) → (Int × Int × Int)
  | 0, x13_, x14_, zE109 => K0 x13_ zE109
  | m + 1, x13_, x14_, zE109 =>
    LET (rec_ x0 x13_ x2) fun y112 =>
    if (!decide (y112.2.2 = 0)) then
      (0, y112.2.1, y112.2.2)
    else
    ref13_check_L1 x0 x2 rec_ K0 m y112.2.1 (x14_ + 1) (zE109 ++ ([y112.1] : List Int))
/-- patchbay/patchbayref13.check -/
def ref13_check_B (rec_ : (List api_ExprNode) → Int → expr_Scope → (Int × Int × Int)) (x0 : List api_ExprNode) (x1 : Int) (x2 : expr_Scope) : Int × Int × Int :=
  if (decide ((x0.length : Int) ≤ x1)) then
    (0, x1, 3)
  else
  LET (ref13_Arity ((ix x0 x1).Op)) fun y103 =>
  if (decide (y103 < 0)) then
    (0, x1, 11)
  else
  if (decide (y103 = 0)) then
    LET (ref13_leaf (ix x0 x1) x2) fun y107 =>
    (y107.1, (wr (x1 + 1)), y107.2)
  else
  ref13_check_L1 x0 x2 rec_ (fun (x13_116 : Int) (zE109_116 : List Int) =>
      LET (ref13_operator (ix x0 x1) zE109_116) fun y118 =>
      (y118.1, x13_116, y118.2)) (Int.toNat (y103 - 0)) (wr (x1 + 1)) 0 ([] : List Int)
def ref13_check_R : Nat → (List api_ExprNode) → Int → expr_Scope → (Int × Int × Int)
  | 0, x0, x1, x2 => (0, 0, 1)
  | n_ + 1, x0, x1, x2 => ref13_check_B (ref13_check_R n_) x0 x1 x2
def ref13_check (x0 : List api_ExprNode) (x1 : Int) (x2 : expr_Scope) : Int × Int × Int := ref13_check_R ((x0.length - x1.toNat) + 1) x0 x1 x2

/-- patchbay/patchbayref13.Check -/
def ref13_Check (x0 : List api_ExprNode) (x1 : expr_Scope) : Int × Int :=
  if (decide (24 < (x0.length : Int))) then
    (0, 12)
  else
  LET (ref13_check x0 0 x1) fun y102 =>
  if (!decide (y102.2.2 = 0)) then
    (0, y102.2.2)
  else
  if (decide (y102.2.1 < (x0.length : Int))) then
    (0, 4)
  else
  (y102.1, 0)

/-- patchbay/patchbayref20.applies -/
def ref20_applies (x0 : api_ControlNode) : Bool :=
  ((decide (x0.Kind = 1)) || (decide (x0.Kind = 3)))

def ref20_appliedBefore_L1 (x0 : List api_ControlNode) (x1 : Int) (K0 : Unit → Bool) : Nat → Int → Bool
  | 0, x5_ => K0 ()
  | m + 1, x5_ =>
    LET (ref20_applies (ix x0 x5_)) fun y104 =>
    if (y104 && (decide (((ix x0 x5_).Table) = ((ix x0 x1).Table)))) then
      true
    else
    ref20_appliedBefore_L1 x0 x1 K0 m (x5_ + 1)
/-- patchbay/patchbayref20.appliedBefore -/
def ref20_appliedBefore (x0 : List api_ControlNode) (x1 : Int) : Bool :=
  ref20_appliedBefore_L1 x0 x1 (fun (_ : Unit) =>
      false) (Int.toNat (x1 - 0)) 0

/-- patchbay/patchbayref20.checkNode -/
def ref20_checkNode (x0 : api_Program) (x1 : List api_ControlNode) (x2 : Int) : Int :=
  if ((decide (((ix x1 x2).Kind) < 1)) || (decide (3 < ((ix x1 x2).Kind)))) then
    11
  else
  if (decide (((ix x1 x2).Kind) = 2)) then
    LET (ref13_Check ((ix x1 x2).Cond) ({ Program := x0, Params := ([] : List api_Field) } : expr_Scope)) fun y110 =>
    LET (fun (x9_113 : Int) =>
      x9_113) fun k113 =>
    if ((decide (y110.2 = 0)) && (!decide (y110.1 = 1))) then
      k113 10
    else
    k113 y110.2
  else
  if ((decide (((ix x1 x2).Table) < 0)) || (decide ((x0.Tables.length : Int) ≤ ((ix x1 x2).Table)))) then
    8
  else
  LET (ref20_appliedBefore x1 x2) fun y118 =>
  if y118 then
    7
  else
  if ((decide (((ix x1 x2).Kind) = 1)) && (decide (0 < (wr ((((ix x1 x2).Then).length : Int) + (((ix x1 x2).Else).length : Int)))))) then
    5
  else
  0

def ref20_Check_L1 (x0 : api_Program) (y108 : (List api_ControlNode)) (K1 : Unit → (Int × Int)) : Nat → Int → (Int × Int)
  | 0, x5_ => K1 ()
  | m + 1, x5_ =>
    LET (ref20_checkNode x0 y108 x5_) fun y112 =>
    if (!decide (y112 = 0)) then
      (x5_, y112)
    else
    ref20_Check_L1 x0 y108 K1 m (x5_ + 1)
/-- patchbay/patchbayref20.Check -/
def ref20_Check (x0 : api_Program) : Int × Int :=
  LET (ref20_Count x0.Control) fun y102 =>
  if (decide (24 < y102)) then
    ((-1), 12)
  else
  LET (ref20_Nesting x0.Control) fun y105 =>
  if (decide (6 < y105)) then
    ((-1), 14)
  else
  LET (ref20_Preorder x0.Control) fun y108 =>
  ref20_Check_L1 x0 y108 (fun (_ : Unit) =>
      (0, 0)) (Int.toNat ((y108.length : Int) - 0)) 0

/-- patchbay/patchbayref32.under -/
def ref32_under (x0 : List api_Guard) (x1 : Int) (x2 : Bool) : (List api_Guard) :=
  (x0 ++ ([({ Unit := x1, Want := x2 } : api_Guard)] : List api_Guard))

def ref32_collect_L1 (x1 : List api_ControlNode) (x2 : List api_Guard) (rec_ : (List api_Unit) → (List api_ControlNode) → (List api_Guard) → (List api_Unit)) (K0 : (List api_Unit) → (List api_Unit)) : Nat → Int → (List api_Unit) → (List api_Unit)
  | 0, x7_, zE1 => K0 zE1
  | m + 1, x7_, zE1 =>
    if (decide (((ix x1 x7_).Kind) = 2)) then
      LET (ref32_under x2 (zE1.length : Int) true) fun y116 =>
      LET (rec_ (zE1 ++ ([({ Table := (-1), Cond := (ix x1 x7_).Cond, Guards := x2 } : api_Unit)] : List api_Unit)) ((ix x1 x7_).Then) y116) fun y118 =>
      LET (ref32_under x2 (zE1.length : Int) false) fun y123 =>
      LET (rec_ y118 ((ix x1 x7_).Else) y123) fun y125 =>
      ref32_collect_L1 x1 x2 rec_ K0 m (x7_ + 1) y125
    else
    LET (ref32_under x2 (zE1.length : Int) true) fun y132 =>
    LET (rec_ (zE1 ++ ([({ Table := (ix x1 x7_).Table, Cond := ([] : List api_ExprNode), Guards := x2 } : api_Unit)] : List api_Unit)) ((ix x1 x7_).Then) y132) fun y134 =>
    LET (ref32_under x2 (zE1.length : Int) false) fun y139 =>
    LET (rec_ y134 ((ix x1 x7_).Else) y139) fun y141 =>
    ref32_collect_L1 x1 x2 rec_ K0 m (x7_ + 1) y141
/-- patchbay/patchbayref32.collect -/
def ref32_collect_B (rec_ : (List api_Unit) → (List api_ControlNode) → (List api_Guard) → (List api_Unit)) (x0 : List api_Unit) (x1 : List api_ControlNode) (x2 : List api_Guard) : (List api_Unit) :=
  ref32_collect_L1 x1 x2 rec_ (fun (zE1_144 : List api_Unit) =>
      zE1_144) (Int.toNat ((x1.length : Int) - 0)) 0 x0
def ref32_collect_R : Nat → (List api_Unit) → (List api_ControlNode) → (List api_Guard) → (List api_Unit)
  | 0, x0, x1, x2 => x0
  | n_ + 1, x0, x1, x2 => ref32_collect_B (ref32_collect_R n_) x0 x1 x2
def ref32_collect (x0 : List api_Unit) (x1 : List api_ControlNode) (x2 : List api_Guard) : (List api_Unit) := ref32_collect_R (csl x1 + 1) x0 x1 x2

/-- patchbay/patchbayref32.Build -/
def ref32_Build (x0 : api_Program) : (List api_Unit) :=
  LET (ref20_Check x0) fun y101 =>
  if (!decide (y101.2 = 0)) then
    ([] : List api_Unit)
  else
  LET (ref32_collect ([] : List api_Unit) x0.Control ([] : List api_Guard)) fun y105 =>
  y105

/-- patchbay/patchbayref13.used -/
def ref13_used (x0 : api_ExprNode) : api_ExprNode :=
  LET (fun (x5_105 : Bool) =>
    if x5_105 then
      x0
    else
    LET (fun (x10_111 : Bool) =>
      if x10_111 then
        ({ Op := x0.Op, N := x0.N, W := 0 } : api_ExprNode)
      else
      ({ Op := x0.Op, N := 0, W := 0 } : api_ExprNode)) fun k111 =>
    if (decide (x0.Op = 3)) then
      k111 (decide (x0.Op = 3))
    else
    if (decide (x0.Op = 4)) then
      k111 (decide (x0.Op = 4))
    else
    if (decide (x0.Op = 6)) then
      k111 (decide (x0.Op = 6))
    else
    k111 (decide (x0.Op = 7))) fun k105 =>
  if (decide (x0.Op = 1)) then
    k105 (decide (x0.Op = 1))
  else
  if (decide (x0.Op = 2)) then
    k105 (decide (x0.Op = 2))
  else
  k105 (decide (x0.Op = 8))

def ref13_EqualNodes_L1 (x0 : List api_ExprNode) (x1 : List api_ExprNode) (K0 : Unit → Bool) : Nat → Int → Bool
  | 0, x5_ => K0 ()
  | m + 1, x5_ =>
    LET (ref13_used (ix x0 x5_)) fun y105 =>
    LET (ref13_used (ix x1 x5_)) fun y108 =>
    if (!decide (y105 = y108)) then
      false
    else
    ref13_EqualNodes_L1 x0 x1 K0 m (x5_ + 1)
/-- patchbay/patchbayref13.EqualNodes -/
def ref13_EqualNodes (x0 : List api_ExprNode) (x1 : List api_ExprNode) : Bool :=
  if (!decide ((x0.length : Int) = (x1.length : Int))) then
    false
  else
  ref13_EqualNodes_L1 x0 x1 (fun (_ : Unit) =>
      true) (Int.toNat ((x0.length : Int) - 0)) 0

def ref32_EqualUnits_L2 (x0 : List api_Unit) (x1 : List api_Unit) (x5_ : Int) (K2 : Unit → Bool) : Nat → Int → Bool
  | 0, x6_ => K2 ()
  | m + 1, x6_ =>
    if (!decide ((ix ((ix x0 x5_).Guards) x6_) = (ix ((ix x1 x5_).Guards) x6_))) then
      false
    else
    ref32_EqualUnits_L2 x0 x1 x5_ K2 m (x6_ + 1)
def ref32_EqualUnits_L1 (x0 : List api_Unit) (x1 : List api_Unit) (K0 : Unit → Bool) : Nat → Int → Bool
  | 0, x5_ => K0 ()
  | m + 1, x5_ =>
    if (((!decide (((ix x0 x5_).Table) = ((ix x1 x5_).Table))) || (!(ref13_EqualNodes ((ix x0 x5_).Cond) ((ix x1 x5_).Cond)))) || (!decide ((((ix x0 x5_).Guards).length : Int) = (((ix x1 x5_).Guards).length : Int)))) then
      false
    else
    ref32_EqualUnits_L2 x0 x1 x5_ (fun (_ : Unit) =>
        ref32_EqualUnits_L1 x0 x1 K0 m (x5_ + 1)) (Int.toNat ((((ix x0 x5_).Guards).length : Int) - 0)) 0
/-- patchbay/patchbayref32.EqualUnits -/
def ref32_EqualUnits (x0 : List api_Unit) (x1 : List api_Unit) : Bool :=
  if (!decide ((x0.length : Int) = (x1.length : Int))) then
    false
  else
  ref32_EqualUnits_L1 x0 x1 (fun (_ : Unit) =>
      true) (Int.toNat ((x0.length : Int) - 0)) 0

/-- patchbay/patchbaylaw32.UnitsBuild -/
def law32_UnitsBuild (x0 : api_Program) : Bool :=
  LET (law22_Small x0) fun y101 =>
  if (!y101) then
    LET (law32_awake) fun y103 =>
    y103
  else
  LET (units_Build x0) fun y104 =>
  LET (ref32_Build x0) fun y106 =>
  LET (ref32_EqualUnits y104 y106) fun y108 =>
  (y108 && (law32_awake))

def law32_UnitsOrder_L2 (y104 : (List api_Unit)) (x5_ : Int) (K2 : Unit → Bool) : Nat → Int → Bool
  | 0, x6_ => K2 ()
  | m + 1, x6_ =>
    if (((decide (((ix ((ix y104 x5_).Guards) x6_).Unit) < 0)) || (decide (x5_ ≤ ((ix ((ix y104 x5_).Guards) x6_).Unit)))) || ((decide (0 < x6_)) && (decide (((ix ((ix y104 x5_).Guards) x6_).Unit) ≤ ((ix ((ix y104 x5_).Guards) (wr (x6_ - 1))).Unit))))) then
      false
    else
    law32_UnitsOrder_L2 y104 x5_ K2 m (x6_ + 1)
def law32_UnitsOrder_L1 (y104 : (List api_Unit)) (K0 : (List Bool) → Bool) : Nat → Int → (List Bool) → Bool
  | 0, x5_, zE108 => K0 zE108
  | m + 1, x5_, zE108 =>
    law32_UnitsOrder_L2 y104 x5_ (fun (_ : Unit) =>
        if ((((decide (((ix y104 x5_).Table) < (-1))) || (decide ((zE108.length : Int) ≤ ((ix y104 x5_).Table)))) || ((decide (0 ≤ ((ix y104 x5_).Table))) && (ix zE108 ((ix y104 x5_).Table)))) || (!decide ((decide (((ix y104 x5_).Table) = (-1))) = (decide (0 < (((ix y104 x5_).Cond).length : Int)))))) then
          false
        else
        if (decide (0 ≤ ((ix y104 x5_).Table))) then
          law32_UnitsOrder_L1 y104 K0 m (x5_ + 1) (zE108.set ((ix y104 x5_).Table).toNat true)
        else
        law32_UnitsOrder_L1 y104 K0 m (x5_ + 1) zE108) (Int.toNat ((((ix y104 x5_).Guards).length : Int) - 0)) 0
/-- patchbay/patchbaylaw32.UnitsOrder -/
def law32_UnitsOrder (x0 : api_Program) : Bool :=
  LET (law22_Small x0) fun y101 =>
  if (!y101) then
    LET (law32_awake) fun y103 =>
    y103
  else
  LET (units_Build x0) fun y104 =>
  law32_UnitsOrder_L1 y104 (fun (zE108_147 : List Bool) =>
      LET (law32_awake) fun y148 =>
      y148) (Int.toNat ((y104.length : Int) - 0)) 0 (List.replicate x0.Tables.length false)

def law32_visit_L1 (x1 : List api_ControlNode) (x2 : List Bool) (x4 : Bool) (rec_ : (List Bool) → (List api_ControlNode) → (List Bool) → Int → Bool → ((List Bool) × Int)) (K0 : Int → (List Bool) → ((List Bool) × Int)) : Nat → Int → Int → (List Bool) → ((List Bool) × Int)
  | 0, x3_, x12_, zE1 => K0 x3_ zE1
  | m + 1, x3_, x12_, zE1 =>
    LET (rec_ (zE1 ++ ([x4] : List Bool)) ((ix x1 x12_).Then) x2 (wr (x3_ + 1)) (x4 && ((decide (x3_ < (x2.length : Int))) && (ix x2 x3_)))) fun y112 =>
    LET (rec_ y112.1 ((ix x1 x12_).Else) x2 y112.2 (x4 && (!((decide (x3_ < (x2.length : Int))) && (ix x2 x3_))))) fun y121 =>
    law32_visit_L1 x1 x2 x4 rec_ K0 m y121.2 (x12_ + 1) y121.1
/-- patchbay/patchbaylaw32.visit -/
def law32_visit_B (rec_ : (List Bool) → (List api_ControlNode) → (List Bool) → Int → Bool → ((List Bool) × Int)) (x0 : List Bool) (x1 : List api_ControlNode) (x2 : List Bool) (x3 : Int) (x4 : Bool) : (List Bool) × Int :=
  law32_visit_L1 x1 x2 x4 rec_ (fun (x3_124 : Int) (zE1_124 : List Bool) =>
      (zE1_124, x3_124)) (Int.toNat ((x1.length : Int) - 0)) x3 0 x0
def law32_visit_R : Nat → (List Bool) → (List api_ControlNode) → (List Bool) → Int → Bool → ((List Bool) × Int)
  | 0, x0, x1, x2, x3, x4 => (x0, x3)
  | n_ + 1, x0, x1, x2, x3, x4 => law32_visit_B (law32_visit_R n_) x0 x1 x2 x3 x4
def law32_visit (x0 : List Bool) (x1 : List api_ControlNode) (x2 : List Bool) (x3 : Int) (x4 : Bool) : (List Bool) × Int := law32_visit_R (csl x1 + 1) x0 x1 x2 x3 x4

def units_Executes_L1 (x0 : List api_Unit) (x1 : List Bool) (x2 : Int) (K0 : Unit → Bool) : Nat → Int → Bool
  | 0, x23_ => K0 ()
  | m + 1, x23_ =>
    if (!decide ((((decide (0 ≤ ((ix ((ix x0 x2).Guards) x23_).Unit))) && (decide (((ix ((ix x0 x2).Guards) x23_).Unit) < (x1.length : Int)))) && (ix x1 ((ix ((ix x0 x2).Guards) x23_).Unit))) = ((ix ((ix x0 x2).Guards) x23_).Want))) then
      false
    else
    units_Executes_L1 x0 x1 x2 K0 m (x23_ + 1)
/-- patchbay/units.Executes -/
def units_Executes (x0 : List api_Unit) (x1 : List Bool) (x2 : Int) : Bool :=
  if ((decide (x2 < 0)) || (decide ((x0.length : Int) ≤ x2))) then
    false
  else
  units_Executes_L1 x0 x1 x2 (fun (_ : Unit) =>
      true) (Int.toNat ((((ix x0 x2).Guards).length : Int) - 0)) 0

def law32_UnitsWalk_L1 (x1 : List Bool) (y104 : (List api_Unit)) (y110 : (List Bool) × Int) (K0 : Unit → Bool) : Nat → Int → Bool
  | 0, x8_ => K0 ()
  | m + 1, x8_ =>
    LET (units_Executes y104 x1 x8_) fun y119 =>
    if (!decide (y119 = (ix y110.1 x8_))) then
      false
    else
    law32_UnitsWalk_L1 x1 y104 y110 K0 m (x8_ + 1)
/-- patchbay/patchbaylaw32.UnitsWalk -/
def law32_UnitsWalk (x0 : api_Program) (x1 : List Bool) : Bool :=
  LET (law22_Small x0) fun y101 =>
  if (!y101) then
    LET (law32_awake) fun y103 =>
    y103
  else
  LET (units_Build x0) fun y104 =>
  if (decide ((y104.length : Int) = 0)) then
    LET (law32_awake) fun y107 =>
    y107
  else
  LET (law32_visit ([] : List Bool) x0.Control x1 0 true) fun y110 =>
  if ((!decide (y110.2 = (y104.length : Int))) || (!decide ((y110.1.length : Int) = y110.2))) then
    false
  else
  law32_UnitsWalk_L1 x1 y104 y110 (fun (_ : Unit) =>
      LET (law32_awake) fun y125 =>
      y125) (Int.toNat (y110.2 - 0)) 0

end Go.Proofs.Ytkgnjpoafilicaa
