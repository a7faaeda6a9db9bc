/-
  Each function of this seat as a plain program.
-/
import Derived.Test.YtnejfbehaembkaaKTy
import Derived.Test.YtnejfbehaembkaaPbV
set_option linter.unusedVariables false
set_option linter.unusedSimpArgs false
set_option maxRecDepth 100000
namespace Go.Proofs.Ytnejfbehaembkaa
open Go Go.Pb Go.RowKit
def law13_awake : Bool := true

/-- (patchbay/patchbaylaw13.Args).scope -/
def m1_law13_Args__scope (x0 : law13_Args) : expr_Scope :=
  ({ Program := x0.P, Params := x0.Params } : expr_Scope)

/-- patchbay/expr.arity -/
def expr_arity (x0 : Int) : Int :=
  LET (fun (x4_104 : Bool) =>
    if x4_104 then
      0
    else
    LET (fun (x9_109 : Bool) =>
      if x9_109 then
        1
      else
      LET (fun (x14_118 : Bool) =>
        if x14_118 then
          2
        else
        if (decide (x0 = 17)) then
          3
        else
        (-1)) fun k118 =>
      if (decide (x0 = 9)) then
        k118 (decide (x0 = 9))
      else
      if (decide (x0 = 10)) then
        k118 (decide (x0 = 10))
      else
      if (decide (x0 = 11)) then
        k118 (decide (x0 = 11))
      else
      if (decide (x0 = 12)) then
        k118 (decide (x0 = 12))
      else
      if (decide (x0 = 13)) then
        k118 (decide (x0 = 13))
      else
      if (decide (x0 = 14)) then
        k118 (decide (x0 = 14))
      else
      if (decide (x0 = 15)) then
        k118 (decide (x0 = 15))
      else
      k118 (decide (x0 = 16))) fun k109 =>
    if (decide (x0 = 5)) then
      k109 (decide (x0 = 5))
    else
    if (decide (x0 = 6)) then
      k109 (decide (x0 = 6))
    else
    if (decide (x0 = 7)) then
      k109 (decide (x0 = 7))
    else
    k109 (decide (x0 = 8))) fun k104 =>
  if (decide (x0 = 1)) then
    k104 (decide (x0 = 1))
  else
  if (decide (x0 = 2)) then
    k104 (decide (x0 = 2))
  else
  if (decide (x0 = 3)) then
    k104 (decide (x0 = 3))
  else
  k104 (decide (x0 = 4))

/-- patchbay/expr.wide -/
def expr_wide (x0 : Int) : Int × Int :=
  if ((decide (x0 < 1)) || (decide (32 < x0))) then
    (0, 10)
  else
  (x0, 0)

def bitvec_valid_L1 (x0 : List Int) (K0 : Unit → Bool) : Nat → Int → Bool
  | 0, x7_ => K0 ()
  | m + 1, x7_ =>
    if ((decide ((ix x0 x7_) < 1)) || (decide (32 < (ix x0 x7_)))) then
      false
    else
    bitvec_valid_L1 x0 K0 m (x7_ + 1)
/-- patchbay/bitvec.valid -/
def bitvec_valid (x0 : List Int) : Bool :=
  bitvec_valid_L1 x0 (fun (_ : Unit) =>
      true) (Int.toNat ((x0.length : Int) - 0)) 0

/-- patchbay/bitvec.Mask -/
def bitvec_Mask (x0 : Int) : (BitVec 32) :=
  LET (bitvec_valid ([x0] : List Int)) fun y102 =>
  if (!y102) then
    0#32
  else
  (4294967295#32 >>> (wr (32 - x0)).toNat)

/-- (patchbay/expr.Scope).field -/
def m1_expr_Scope__field (x0 : expr_Scope) (x1 : Int) (x2 : Int) : api_Field × Bool :=
  LET (fun (x8_115 : List api_Field) =>
    if ((decide (x2 < 0)) || (decide ((x8_115.length : Int) ≤ x2))) then
      (({ Name := ([] : List UInt8), Width := 0 } : api_Field), false)
    else
    ((ix x8_115 x2), true)) fun k115 =>
  if (!decide (x1 = (-1))) then
    if ((decide (x1 < 0)) || (decide ((x0.Program.Headers.length : Int) ≤ x1))) then
      (({ Name := ([] : List UInt8), Width := 0 } : api_Field), false)
    else
    k115 ((ix x0.Program.Headers x1).Fields)
  else
  k115 x0.Program.Metadata

/-- (patchbay/expr.Scope).primary -/
def m1_expr_Scope__primary (x0 : expr_Scope) (x1 : api_ExprNode) : Int × Int :=
  if (decide (x1.Op = 1)) then
    LET (expr_wide x1.W) fun y102 =>
    if ((decide (y102.2 = 0)) && ((decide (x1.N < 0)) || (decide (((bitvec_Mask y102.1).toNat : Int) < x1.N)))) then
      (0, 9)
    else
    (y102.1, y102.2)
  else
  if (decide (x1.Op = 2)) then
    LET (m1_expr_Scope__field x0 x1.N x1.W) fun y108 =>
    if (!y108.2) then
      (0, 8)
    else
    LET (expr_wide y108.1.Width) fun y114 =>
    (y114.1, y114.2)
  else
  if (decide (x1.Op = 3)) then
    if ((decide (x1.N < 0)) || (decide ((x0.Params.length : Int) ≤ x1.N))) then
      (0, 8)
    else
    LET (expr_wide ((ix x0.Params x1.N).Width)) fun y121 =>
    (y121.1, y121.2)
  else
  if ((decide (x1.N < 0)) || (decide ((x0.Program.Headers.length : Int) ≤ x1.N))) then
    (0, 8)
  else
  (1, 0)

/-- patchbay/expr.combine -/
def expr_combine (x0 : api_ExprNode) (x1 : List Int) : Int × Int :=
  LET (fun (x10_102 : Bool) =>
    if x10_102 then
      if ((decide (x0.N < 0)) || (decide (31 < x0.N))) then
        (0, 9)
      else
      LET (expr_arity x0.Op) fun y106 =>
      if ((decide (y106 = 2)) && (!decide ((ix x1 0) = (ix x1 1)))) then
        (0, 10)
      else
      if ((decide (x0.Op = 15)) || (decide (x0.Op = 16))) then
        (1, 0)
      else
      ((ix x1 0), 0)
    else
    if (decide (x0.Op = 8)) then
      if (decide (x0.N < 0)) then
        (0, 9)
      else
      LET (expr_wide x0.W) fun y116 =>
      if ((!decide (y116.2 = 0)) || (decide ((wr ((ix x1 0) - x0.W)) < x0.N))) then
        (0, 10)
      else
      (x0.W, 0)
    else
    if (decide (x0.Op = 14)) then
      LET (expr_wide (wr ((ix x1 0) + (ix x1 1)))) fun y123 =>
      (y123.1, y123.2)
    else
    if (decide (x0.Op = 17)) then
      if ((!decide ((ix x1 0) = 1)) || (!decide ((ix x1 1) = (ix x1 2)))) then
        (0, 10)
      else
      ((ix x1 1), 0)
    else
    LET (expr_arity x0.Op) fun y131 =>
    if ((decide (y131 = 2)) && (!decide ((ix x1 0) = (ix x1 1)))) then
      (0, 10)
    else
    if ((decide (x0.Op = 15)) || (decide (x0.Op = 16))) then
      (1, 0)
    else
    ((ix x1 0), 0)) fun k102 =>
  if (decide (x0.Op = 6)) then
    k102 (decide (x0.Op = 6))
  else
  k102 (decide (x0.Op = 7))

def m1_expr_Scope__check_L1 (x0 : expr_Scope) (x1 : List api_ExprNode) (rec_ : expr_Scope → (List api_ExprNode) → Int → (Int × Int × Int)) (K1 : Int → (List Int) → (Int × Int × Int)) : Nat → Int → Int → (List Int) → (Int × Int × Int)
  | 0, x7_, x44_, zE109 => K1 x7_ zE109
  | m + 1, x7_, x44_, zE109 =>
    LET (rec_ x0 x1 x7_) fun y112 =>
    if (!decide (y112.2.2 = 0)) then
      (0, 0, y112.2.2)
    else
    m1_expr_Scope__check_L1 x0 x1 rec_ K1 m y112.2.1 (x44_ + 1) (zE109.set x44_.toNat y112.1)
/-- (patchbay/expr.Scope).check -/
def m1_expr_Scope__check_B (rec_ : expr_Scope → (List api_ExprNode) → Int → (Int × Int × Int)) (x0 : expr_Scope) (x1 : List api_ExprNode) (x2 : Int) : Int × Int × Int :=
  if (decide ((x1.length : Int) ≤ x2)) then
    (0, 0, 3)
  else
  LET (expr_arity ((ix x1 x2).Op)) fun y103 =>
  if (decide (y103 < 0)) then
    (0, 0, 11)
  else
  if (decide (y103 = 0)) then
    LET (m1_expr_Scope__primary x0 (ix x1 x2)) fun y107 =>
    (y107.1, (wr (x2 + 1)), y107.2)
  else
  m1_expr_Scope__check_L1 x0 x1 rec_ (fun (x7_116 : Int) (zE109_116 : List Int) =>
      LET (expr_combine (ix x1 x2) zE109_116) fun y118 =>
      (y118.1, x7_116, y118.2)) (Int.toNat (y103 - 0)) (wr (x2 + 1)) 0 ([0, 0, 0] : List Int)
def m1_expr_Scope__check_R : Nat → expr_Scope → (List api_ExprNode) → Int → (Int × Int × Int)
  | 0, x0, x1, x2 => (0, 0, 1)
  | n_ + 1, x0, x1, x2 => m1_expr_Scope__check_B (m1_expr_Scope__check_R n_) x0 x1 x2
def m1_expr_Scope__check (x0 : expr_Scope) (x1 : List api_ExprNode) (x2 : Int) : Int × Int × Int := m1_expr_Scope__check_R ((x1.length - x2.toNat) + 1) x0 x1 x2

/-- patchbay/expr.Check -/
def expr_Check (x0 : List api_ExprNode) (x1 : expr_Scope) : Int × Int :=
  if (decide (24 < (x0.length : Int))) then
    (0, 12)
  else
  LET (m1_expr_Scope__check x1 x0 0) fun y102 =>
  if (!decide (y102.2.2 = 0)) then
    (0, y102.2.2)
  else
  if (decide (y102.2.1 < (x0.length : Int))) then
    (0, 4)
  else
  (y102.1, 0)

/-- patchbay/patchbayref13.Arity -/
def ref13_Arity (x0 : Int) : Int :=
  if ((decide (1 ≤ x0)) && (decide (x0 ≤ 4))) then
    0
  else
  if ((decide (5 ≤ x0)) && (decide (x0 ≤ 8))) then
    1
  else
  if ((decide (9 ≤ x0)) && (decide (x0 ≤ 16))) then
    2
  else
  if (decide (x0 = 17)) then
    3
  else
  (-1)

/-- patchbay/patchbayref13.wide -/
def ref13_wide (x0 : Int) : Int × Int :=
  if ((decide (x0 < 1)) || (decide (32 < x0))) then
    (0, 10)
  else
  (x0, 0)

/-- patchbay/patchbayref01.valid -/
def ref01_valid (x0 : Int) : Bool :=
  ((decide (1 ≤ x0)) && (decide (x0 ≤ 32)))

def ref01_power_L1 (K0 : (BitVec 64) → (BitVec 64)) : Nat → (BitVec 64) → Int → (BitVec 64)
  | 0, x3_, x4_ => K0 x3_
  | m + 1, x3_, x4_ =>
    ref01_power_L1 K0 m (2#64 * x3_) (x4_ + 1)
/-- patchbay/patchbayref01.power -/
def ref01_power (x0 : Int) : (BitVec 64) :=
  ref01_power_L1 (fun (x3_103 : BitVec 64) =>
      x3_103) (Int.toNat (x0 - 0)) 1#64 0

/-- patchbay/patchbayref01.Mask -/
def ref01_Mask (x0 : Int) : (BitVec 32) :=
  LET (ref01_valid x0) fun y101 =>
  if (!y101) then
    0#32
  else
  LET (ref01_power x0) fun y103 =>
  (BitVec.setWidth 32 (y103 - 1#64))

/-- patchbay/patchbayref13.Declared -/
def ref13_Declared (x0 : api_Program) (x1 : api_FieldRef) : Int × Bool :=
  LET (fun (x6_109 : List api_Field) =>
    if ((decide (x1.Field < 0)) || (decide ((x6_109.length : Int) ≤ x1.Field))) then
      (0, false)
    else
    ((ix x6_109 x1.Field).Width, true)) fun k109 =>
  if (!decide (x1.Header = (-1))) then
    if ((decide (x1.Header < 0)) || (decide ((x0.Headers.length : Int) ≤ x1.Header))) then
      (0, false)
    else
    k109 ((ix x0.Headers x1.Header).Fields)
  else
  k109 x0.Metadata

/-- patchbay/patchbayref13.leaf -/
def ref13_leaf (x0 : api_ExprNode) (x1 : expr_Scope) : Int × Int :=
  if (decide (x0.Op = 1)) then
    LET (ref13_wide x0.W) fun y102 =>
    if ((decide (y102.2 = 0)) && ((decide (x0.N < 0)) || (decide (((ref01_Mask y102.1).toNat : Int) < x0.N)))) then
      (0, 9)
    else
    (y102.1, y102.2)
  else
  if (decide (x0.Op = 2)) then
    LET (ref13_Declared x1.Program ({ Header := x0.N, Field := x0.W } : api_FieldRef)) fun y109 =>
    if (!y109.2) then
      (0, 8)
    else
    LET (ref13_wide y109.1) fun y111 =>
    (y111.1, y111.2)
  else
  if (decide (x0.Op = 3)) then
    if ((decide (x0.N < 0)) || (decide ((x1.Params.length : Int) ≤ x0.N))) then
      (0, 8)
    else
    LET (ref13_wide ((ix x1.Params x0.N).Width)) fun y118 =>
    (y118.1, y118.2)
  else
  if ((decide (x0.N < 0)) || (decide ((x1.Program.Headers.length : Int) ≤ x0.N))) then
    (0, 8)
  else
  (1, 0)

/-- patchbay/patchbayref13.operator -/
def ref13_operator (x0 : api_ExprNode) (x1 : List Int) : Int × Int :=
  if (decide (x0.Op = 5)) then
    ((ix x1 0), 0)
  else
  LET (fun (x13_103 : Bool) =>
    if x13_103 then
      if ((decide (x0.N < 0)) || (decide (31 < x0.N))) then
        (0, 9)
      else
      ((ix x1 0), 0)
    else
    if (decide (x0.Op = 8)) then
      if (decide (x0.N < 0)) then
        (0, 9)
      else
      if (((decide (x0.W < 1)) || (decide (32 < x0.W))) || (decide ((wr ((ix x1 0) - x0.W)) < x0.N))) then
        (0, 10)
      else
      (x0.W, 0)
    else
    if (decide (x0.Op = 14)) then
      LET (ref13_wide (wr ((ix x1 0) + (ix x1 1)))) fun y113 =>
      (y113.1, y113.2)
    else
    if (decide (x0.Op = 17)) then
      if ((!decide ((ix x1 0) = 1)) || (!decide ((ix x1 1) = (ix x1 2)))) then
        (0, 10)
      else
      ((ix x1 1), 0)
    else
    if (!decide ((ix x1 0) = (ix x1 1))) then
      (0, 10)
    else
    if ((decide (x0.Op = 15)) || (decide (x0.Op = 16))) then
      (1, 0)
    else
    ((ix x1 0), 0)) fun k103 =>
  if (decide (x0.Op = 6)) then
    k103 (decide (x0.Op = 6))
  else
  k103 (decide (x0.Op = 7))

def ref13_check_L1 (x0 : List api_ExprNode) (x2 : expr_Scope) (rec_ : (List api_ExprNode) → Int → expr_Scope → (Int × Int × Int)) (K0 : Int → (List Int) → (Int × Int × Int)) : Nat → Int → Int → (List Int) → (Int × Int × Int)
  | 0, x13_, x14_, zE109 => K0 x13_ zE109
  | m + 1, x13_, x14_, zE109 =>
    LET (rec_ x0 x13_ x2) fun y112 =>
    if (!decide (y112.2.2 = 0)) then
      (0, y112.2.1, y112.2.2)
    else
    ref13_check_L1 x0 x2 rec_ K0 m y112.2.1 (x14_ + 1) (zE109 ++ ([y112.1] : List Int))
/-- patchbay/patchbayref13.check -/
def ref13_check_B (rec_ : (List api_ExprNode) → Int → expr_Scope → (Int × Int × Int)) (x0 : List api_ExprNode) (x1 : Int) (x2 : expr_Scope) : Int × Int × Int :=
  if (decide ((x0.length : Int) ≤ x1)) then
    (0, x1, 3)
  else
  LET (ref13_Arity ((ix x0 x1).Op)) fun y103 =>
  if (decide (y103 < 0)) then
    (0, x1, 11)
  else
  if (decide (y103 = 0)) then
    LET (ref13_leaf (ix x0 x1) x2) fun y107 =>
    (y107.1, (wr (x1 + 1)), y107.2)
  else
  ref13_check_L1 x0 x2 rec_ (fun (x13_116 : Int) (zE109_116 : List Int) =>
      LET (ref13_operator (ix x0 x1) zE109_116) fun y118 =>
      (y118.1, x13_116, y118.2)) (Int.toNat (y103 - 0)) (wr (x1 + 1)) 0 ([] : List Int)
def ref13_check_R : Nat → (List api_ExprNode) → Int → expr_Scope → (Int × Int × Int)
  | 0, x0, x1, x2 => (0, 0, 1)
  | n_ + 1, x0, x1, x2 => ref13_check_B (ref13_check_R n_) x0 x1 x2
def ref13_check (x0 : List api_ExprNode) (x1 : Int) (x2 : expr_Scope) : Int × Int × Int := ref13_check_R ((x0.length - x1.toNat) + 1) x0 x1 x2

/-- patchbay/patchbayref13.Check -/
def ref13_Check (x0 : List api_ExprNode) (x1 : expr_Scope) : Int × Int :=
  if (decide (24 < (x0.length : Int))) then
    (0, 12)
  else
  LET (ref13_check x0 0 x1) fun y102 =>
  if (!decide (y102.2.2 = 0)) then
    (0, y102.2.2)
  else
  if (decide (y102.2.1 < (x0.length : Int))) then
    (0, 4)
  else
  (y102.1, 0)

def expr_End_L1 (x0 : List api_ExprNode) (K0 : Int → Int) : Nat → Int → Int → Int
  | 0, x1_, x5_ => K0 x1_
  | m + 1, x1_, x5_ =>
    if (decide (0 < x5_)) then
      if (decide ((x0.length : Int) ≤ x1_)) then
        (-1)
      else
      LET (expr_arity ((ix x0 x1_).Op)) fun y107 =>
      if (decide (y107 < 0)) then
        (-1)
      else
      expr_End_L1 x0 K0 m (wr (x1_ + 1)) (wr (x5_ + (wr (y107 - 1))))
    else
    K0 x1_
/-- patchbay/expr.End -/
def expr_End (x0 : List api_ExprNode) (x1 : Int) : Int :=
  if ((decide (x1 < 0)) || (decide ((x0.length : Int) ≤ x1))) then
    (-1)
  else
  expr_End_L1 x0 (fun (x1_109 : Int) =>
      x1_109) (Int.toNat ((x0.length : Int) - x1 + 1)) x1 1

def ref13_End_L1 (x0 : List api_ExprNode) (K0 : Unit → Int) : Nat → Int → Int → Int
  | 0, x5_, x6_ => K0 ()
  | m + 1, x5_, x6_ =>
    LET (ref13_Arity ((ix x0 x6_).Op)) fun y106 =>
    if (decide (y106 < 0)) then
      (-1)
    else
    if (decide ((wr (x5_ + (wr (y106 - 1)))) = 0)) then
      (wr (x6_ + 1))
    else
    ref13_End_L1 x0 K0 m (wr (x5_ + (wr (y106 - 1)))) (x6_ + 1)
/-- patchbay/patchbayref13.End -/
def ref13_End (x0 : List api_ExprNode) (x1 : Int) : Int :=
  if ((decide (x1 < 0)) || (decide ((x0.length : Int) ≤ x1))) then
    (-1)
  else
  ref13_End_L1 x0 (fun (_ : Unit) =>
      (-1)) (Int.toNat ((x0.length : Int) - x1)) 1 x1

/-- cmp.isNaN[int] -/
def cmp_isNaN_int (x0 : Int) : Bool :=
  (!decide (x0 = x0))

/-- cmp.Compare[int] -/
def cmp_Compare_int (x0 : Int) (x1 : Int) : Int :=
  LET (cmp_isNaN_int x0) fun y101 =>
  LET (cmp_isNaN_int x1) fun y102 =>
  if y101 then
    if y102 then
      0
    else
    (-1)
  else
  if y102 then
    1
  else
  if (decide (x0 < x1)) then
    (-1)
  else
  if (decide (x1 < x0)) then
    1
  else
  0

def cmp_Or_int_L1 (x0 : List Int) (K0 : Unit → Int) : Nat → Int → Int
  | 0, x8_ => K0 ()
  | m + 1, x8_ =>
    if (!decide ((ix x0 x8_) = 0)) then
      (ix x0 x8_)
    else
    cmp_Or_int_L1 x0 K0 m (x8_ + 1)
/-- cmp.Or[int] -/
def cmp_Or_int (x0 : List Int) : Int :=
  cmp_Or_int_L1 x0 (fun (_ : Unit) =>
      0) (Int.toNat ((x0.length : Int) - 0)) 0

/-- patchbay/expr.Fields$1 -/
def expr_Fields_1 (x0 : api_FieldRef) (x1 : api_FieldRef) : Int :=
  LET (cmp_Compare_int x0.Header x1.Header) fun y101 =>
  LET (cmp_Compare_int x0.Field x1.Field) fun y102 =>
  LET (cmp_Or_int ([y101, y102] : List Int)) fun y104 =>
  y104

def sortFR (l : List api_FieldRef) : List api_FieldRef := l.mergeSort fun x y => !decide (expr_Fields_1 y x < 0)
def slices_Compact__api_FieldRef_api_FieldRef_ (l : List api_FieldRef) : List api_FieldRef := cpt l

def expr_Fields_L1 (x0 : List api_ExprNode) (K0 : (List api_FieldRef) → (List api_FieldRef)) : Nat → Int → (List api_FieldRef) → (List api_FieldRef)
  | 0, x8_, zE102 => K0 zE102
  | m + 1, x8_, zE102 =>
    if (decide (((ix x0 x8_).Op) = 2)) then
      expr_Fields_L1 x0 K0 m (x8_ + 1) (zE102 ++ ([({ Header := (ix x0 x8_).N, Field := (ix x0 x8_).W } : api_FieldRef)] : List api_FieldRef))
    else
    expr_Fields_L1 x0 K0 m (x8_ + 1) zE102
/-- patchbay/expr.Fields -/
def expr_Fields (x0 : List api_ExprNode) : (List api_FieldRef) :=
  expr_Fields_L1 x0 (fun (zE102_112 : List api_FieldRef) =>
      LET (sortFR zE102_112) fun y113 =>
      LET (slices_Compact__api_FieldRef_api_FieldRef_ y113) fun y115 =>
      y115) (Int.toNat ((x0.length : Int) - 0)) 0 ([] : List api_FieldRef)

/-- patchbay/patchbayref13.Less -/
def ref13_Less (x0 : api_FieldRef) (x1 : api_FieldRef) : Bool :=
  ((decide (x0.Header < x1.Header)) || ((decide (x0.Header = x1.Header)) && (decide (x0.Field < x1.Field))))

def ref13_AddField_L1 (x0 : List api_FieldRef) (x1 : api_FieldRef) (K0 : Bool → (List api_FieldRef) → (List api_FieldRef)) : Nat → Bool → Int → (List api_FieldRef) → (List api_FieldRef)
  | 0, x6_, x7_, zE102 => K0 x6_ zE102
  | m + 1, x6_, x7_, zE102 =>
    if ((!x6_) && (!(ref13_Less (ix x0 x7_) x1))) then
      if (!decide ((ix x0 x7_) = x1)) then
        ref13_AddField_L1 x0 x1 K0 m true (x7_ + 1) ((zE102 ++ ([x1] : List api_FieldRef)) ++ ([(ix x0 x7_)] : List api_FieldRef))
      else
      ref13_AddField_L1 x0 x1 K0 m true (x7_ + 1) (zE102 ++ ([(ix x0 x7_)] : List api_FieldRef))
    else
    ref13_AddField_L1 x0 x1 K0 m x6_ (x7_ + 1) (zE102 ++ ([(ix x0 x7_)] : List api_FieldRef))
/-- patchbay/patchbayref13.AddField -/
def ref13_AddField (x0 : List api_FieldRef) (x1 : api_FieldRef) : (List api_FieldRef) :=
  ref13_AddField_L1 x0 x1 (fun (x6_122 : Bool) (zE102_122 : List api_FieldRef) =>
      if (!x6_122) then
        (zE102_122 ++ ([x1] : List api_FieldRef))
      else
      zE102_122) (Int.toNat ((x0.length : Int) - 0)) false 0 ([] : List api_FieldRef)

def ref13_Fields_L1 (x0 : List api_ExprNode) (K0 : (List api_FieldRef) → (List api_FieldRef)) : Nat → (List api_FieldRef) → Int → (List api_FieldRef)
  | 0, x3_, x4_ => K0 x3_
  | m + 1, x3_, x4_ =>
    if (decide (((ix x0 x4_).Op) = 2)) then
      LET (ref13_AddField x3_ ({ Header := (ix x0 x4_).N, Field := (ix x0 x4_).W } : api_FieldRef)) fun y107 =>
      ref13_Fields_L1 x0 K0 m y107 (x4_ + 1)
    else
    ref13_Fields_L1 x0 K0 m x3_ (x4_ + 1)
/-- patchbay/patchbayref13.Fields -/
def ref13_Fields (x0 : List api_ExprNode) : (List api_FieldRef) :=
  ref13_Fields_L1 x0 (fun (x3_109 : List api_FieldRef) =>
      x3_109) (Int.toNat ((x0.length : Int) - 0)) ([] : List api_FieldRef) 0

def ref13_EqualFields_L1 (x0 : List api_FieldRef) (x1 : List api_FieldRef) (K0 : Unit → Bool) : Nat → Int → Bool
  | 0, x5_ => K0 ()
  | m + 1, x5_ =>
    if (!decide ((ix x0 x5_) = (ix x1 x5_))) then
      false
    else
    ref13_EqualFields_L1 x0 x1 K0 m (x5_ + 1)
/-- patchbay/patchbayref13.EqualFields -/
def ref13_EqualFields (x0 : List api_FieldRef) (x1 : List api_FieldRef) : Bool :=
  if (!decide ((x0.length : Int) = (x1.length : Int))) then
    false
  else
  ref13_EqualFields_L1 x0 x1 (fun (_ : Unit) =>
      true) (Int.toNat ((x0.length : Int) - 0)) 0

def slices_Sort__int_int_ (l : List Int) : List Int := l.mergeSort fun x y => decide (x ≤ y)

def slices_Compact__int_int_ (l : List Int) : List Int := cpt l

def expr_Headers_L1 (x0 : List api_ExprNode) (K0 : (List Int) → (List Int)) : Nat → Int → (List Int) → (List Int)
  | 0, x8_, zE102 => K0 zE102
  | m + 1, x8_, zE102 =>
    if (decide (((ix x0 x8_).Op) = 4)) then
      expr_Headers_L1 x0 K0 m (x8_ + 1) (zE102 ++ ([(ix x0 x8_).N] : List Int))
    else
    expr_Headers_L1 x0 K0 m (x8_ + 1) zE102
/-- patchbay/expr.Headers -/
def expr_Headers (x0 : List api_ExprNode) : (List Int) :=
  expr_Headers_L1 x0 (fun (zE102_112 : List Int) =>
      LET (slices_Sort__int_int_ zE102_112) fun y113 =>
      LET (slices_Compact__int_int_ y113) fun y115 =>
      y115) (Int.toNat ((x0.length : Int) - 0)) 0 ([] : List Int)

def ref13_AddInt_L1 (x0 : List Int) (x1 : Int) (K0 : Bool → (List Int) → (List Int)) : Nat → Bool → Int → (List Int) → (List Int)
  | 0, x6_, x7_, zE102 => K0 x6_ zE102
  | m + 1, x6_, x7_, zE102 =>
    if ((!x6_) && (decide (x1 ≤ (ix x0 x7_)))) then
      if (!decide ((ix x0 x7_) = x1)) then
        ref13_AddInt_L1 x0 x1 K0 m true (x7_ + 1) ((zE102 ++ ([x1] : List Int)) ++ ([(ix x0 x7_)] : List Int))
      else
      ref13_AddInt_L1 x0 x1 K0 m true (x7_ + 1) (zE102 ++ ([(ix x0 x7_)] : List Int))
    else
    ref13_AddInt_L1 x0 x1 K0 m x6_ (x7_ + 1) (zE102 ++ ([(ix x0 x7_)] : List Int))
/-- patchbay/patchbayref13.AddInt -/
def ref13_AddInt (x0 : List Int) (x1 : Int) : (List Int) :=
  ref13_AddInt_L1 x0 x1 (fun (x6_116 : Bool) (zE102_116 : List Int) =>
      if (!x6_116) then
        (zE102_116 ++ ([x1] : List Int))
      else
      zE102_116) (Int.toNat ((x0.length : Int) - 0)) false 0 ([] : List Int)

def ref13_Headers_L1 (x0 : List api_ExprNode) (K0 : (List Int) → (List Int)) : Nat → (List Int) → Int → (List Int)
  | 0, x3_, x4_ => K0 x3_
  | m + 1, x3_, x4_ =>
    if (decide (((ix x0 x4_).Op) = 4)) then
      LET (ref13_AddInt x3_ ((ix x0 x4_).N)) fun y106 =>
      ref13_Headers_L1 x0 K0 m y106 (x4_ + 1)
    else
    ref13_Headers_L1 x0 K0 m x3_ (x4_ + 1)
/-- patchbay/patchbayref13.Headers -/
def ref13_Headers (x0 : List api_ExprNode) : (List Int) :=
  ref13_Headers_L1 x0 (fun (x3_108 : List Int) =>
      x3_108) (Int.toNat ((x0.length : Int) - 0)) ([] : List Int) 0

def ref02_EqualInts_L1 (x0 : List Int) (x1 : List Int) (K0 : Unit → Bool) : Nat → Int → Bool
  | 0, x5_ => K0 ()
  | m + 1, x5_ =>
    if (!decide ((ix x0 x5_) = (ix x1 x5_))) then
      false
    else
    ref02_EqualInts_L1 x0 x1 K0 m (x5_ + 1)
/-- patchbay/patchbayref02.EqualInts -/
def ref02_EqualInts (x0 : List Int) (x1 : List Int) : Bool :=
  if (!decide ((x0.length : Int) = (x1.length : Int))) then
    false
  else
  ref02_EqualInts_L1 x0 x1 (fun (_ : Unit) =>
      true) (Int.toNat ((x0.length : Int) - 0)) 0

/-- patchbay/patchbaylaw13.ExprChecks -/
def law13_ExprChecks (x0 : law13_Args) (x1 : Int) : Bool :=
  if (decide (100 < (x0.Nodes.length : Int))) then
    LET (law13_awake) fun y103 =>
    y103
  else
  LET (m1_law13_Args__scope x0) fun y105 =>
  LET (expr_Check x0.Nodes y105) fun y107 =>
  LET (ref13_Check x0.Nodes ({ Program := x0.P, Params := x0.Params } : expr_Scope)) fun y112 =>
  ((((((decide (y107.1 = y112.1)) && (decide (y107.2 = y112.2))) && (decide ((expr_End x0.Nodes x1) = (ref13_End x0.Nodes x1)))) && (ref13_EqualFields (expr_Fields x0.Nodes) (ref13_Fields x0.Nodes))) && (ref02_EqualInts (expr_Headers x0.Nodes) (ref13_Headers x0.Nodes))) && (law13_awake))

end Go.Proofs.Ytnejfbehaembkaa
