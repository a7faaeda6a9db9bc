/-
  Each function of this seat as a plain program.
-/
import Derived.Test.YtfekghenlhoamaaGreatKTy
import Derived.Test.YtfekghenlhoamaaGreatPbC
set_option linter.unusedVariables false
set_option linter.unusedSimpArgs false
set_option maxRecDepth 100000
namespace Go.Proofs.YtfekghenlhoamaaGreat
open Go Go.Pb Go.RowKit
def law13_awake : Bool := true

/-- (patchbay/patchbaylaw13.Args).scope -/
def m1_law13_Args__scope (x0 : law13_Args) : expr_Scope :=
  ({ Program := x0.P, Params := x0.Params } : expr_Scope)

/-- patchbay/expr.arity -/
def expr_arity (x0 : Int) : Int :=
  LET (fun (x4_104 : Bool) =>
    if x4_104 then
      0
    else
    LET (fun (x9_109 : Bool) =>
      if x9_109 then
        1
      else
      LET (fun (x14_118 : Bool) =>
        if x14_118 then
          2
        else
        if (decide (x0 = 17)) then
          3
        else
        (-1)) fun k118 =>
      if (decide (x0 = 9)) then
        k118 (decide (x0 = 9))
      else
      if (decide (x0 = 10)) then
        k118 (decide (x0 = 10))
      else
      if (decide (x0 = 11)) then
        k118 (decide (x0 = 11))
      else
      if (decide (x0 = 12)) then
        k118 (decide (x0 = 12))
      else
      if (decide (x0 = 13)) then
        k118 (decide (x0 = 13))
      else
      if (decide (x0 = 14)) then
        k118 (decide (x0 = 14))
      else
      if (decide (x0 = 15)) then
        k118 (decide (x0 = 15))
      else
      k118 (decide (x0 = 16))) fun k109 =>
    if (decide (x0 = 5)) then
      k109 (decide (x0 = 5))
    else
    if (decide (x0 = 6)) then
      k109 (decide (x0 = 6))
    else
    if (decide (x0 = 7)) then
      k109 (decide (x0 = 7))
    else
    k109 (decide (x0 = 8))) fun k104 =>
  if (decide (x0 = 1)) then
    k104 (decide (x0 = 1))
  else
  if (decide (x0 = 2)) then
    k104 (decide (x0 = 2))
  else
  if (decide (x0 = 3)) then
    k104 (decide (x0 = 3))
  else
  k104 (decide (x0 = 4))

/-- patchbay/expr.wide -/
def expr_wide (x0 : Int) : Int × Int :=
  if ((decide (x0 < 1)) || (decide (32 < x0))) then
    (0, 10)
  else
  (x0, 0)

def bitvec_valid_L1 (x0 : List Int) (K0 : Unit → Bool) : Nat → Int → Bool
  | 0, x7_ => K0 ()
  | m + 1, x7_ =>
    if ((decide ((ix x0 x7_) < 1)) || (decide (32 < (ix x0 x7_)))) then
      false
    else
    bitvec_valid_L1 x0 K0 m (x7_ + 1)
/-- patchbay/bitvec.valid -/
def bitvec_valid (x0 : List Int) : Bool :=
  bitvec_valid_L1 x0 (fun (_ : Unit) =>
      true) (Int.toNat ((x0.length : Int) - 0)) 0

/-- patchbay/bitvec.Mask -/
def bitvec_Mask (x0 : Int) : (BitVec 32) :=
  LET (bitvec_valid ([x0] : List Int)) fun y102 =>
  if (!y102) then
    0#32
  else
  (4294967295#32 >>> (wr (32 - x0)).toNat)

/-- (patchbay/expr.Scope).field -/
def m1_expr_Scope__field (x0 : expr_Scope) (x1 : Int) (x2 : Int) : api_Field × Bool :=
  LET (fun (x8_115 : List api_Field) =>
    if ((decide (x2 < 0)) || (decide ((x8_115.length : Int) ≤ x2))) then
      (({ Name := ([] : List UInt8), Width := 0 } : api_Field), false)
    else
    ((ix x8_115 x2), true)) fun k115 =>
  if (!decide (x1 = (-1))) then
    if ((decide (x1 < 0)) || (decide ((x0.Program.Headers.length : Int) ≤ x1))) then
      (({ Name := ([] : List UInt8), Width := 0 } : api_Field), false)
    else
    k115 ((ix x0.Program.Headers x1).Fields)
  else
  k115 x0.Program.Metadata

/-- (patchbay/expr.Scope).primary -/
def m1_expr_Scope__primary (x0 : expr_Scope) (x1 : api_ExprNode) : Int × Int :=
  if (decide (x1.Op = 1)) then
    LET (expr_wide x1.W) fun y102 =>
    if ((decide (y102.2 = 0)) && ((decide (x1.N < 0)) || (decide (((bitvec_Mask y102.1).toNat : Int) < x1.N)))) then
      (0, 9)
    else
    (y102.1, y102.2)
  else
  if (decide (x1.Op = 2)) then
    LET (m1_expr_Scope__field x0 x1.N x1.W) fun y108 =>
    if (!y108.2) then
      (0, 8)
    else
    LET (expr_wide y108.1.Width) fun y114 =>
    (y114.1, y114.2)
  else
  if (decide (x1.Op = 3)) then
    if ((decide (x1.N < 0)) || (decide ((x0.Params.length : Int) ≤ x1.N))) then
      (0, 8)
    else
    LET (expr_wide ((ix x0.Params x1.N).Width)) fun y121 =>
    (y121.1, y121.2)
  else
  if ((decide (x1.N < 0)) || (decide ((x0.Program.Headers.length : Int) ≤ x1.N))) then
    (0, 8)
  else
  (1, 0)

/-- patchbay/expr.combine -/
def expr_combine (x0 : api_ExprNode) (x1 : List Int) : Int × Int :=
  LET (fun (x10_102 : Bool) =>
    if x10_102 then
      if ((decide (x0.N < 0)) || (decide (31 < x0.N))) then
        (0, 9)
      else
      LET (expr_arity x0.Op) fun y106 =>
      if ((decide (y106 = 2)) && (!decide ((ix x1 0) = (ix x1 1)))) then
        (0, 10)
      else
      if ((decide (x0.Op = 15)) || (decide (x0.Op = 16))) then
        (1, 0)
      else
      ((ix x1 0), 0)
    else
    if (decide (x0.Op = 8)) then
      if (decide (x0.N < 0)) then
        (0, 9)
      else
      LET (expr_wide x0.W) fun y116 =>
      if ((!decide (y116.2 = 0)) || (decide ((wr ((ix x1 0) - x0.W)) < x0.N))) then
        (0, 10)
      else
      (x0.W, 0)
    else
    if (decide (x0.Op = 14)) then
      LET (expr_wide (wr ((ix x1 0) + (ix x1 1)))) fun y123 =>
      (y123.1, y123.2)
    else
    if (decide (x0.Op = 17)) then
      if ((!decide ((ix x1 0) = 1)) || (!decide ((ix x1 1) = (ix x1 2)))) then
        (0, 10)
      else
      ((ix x1 1), 0)
    else
    LET (expr_arity x0.Op) fun y131 =>
    if ((decide (y131 = 2)) && (!decide ((ix x1 0) = (ix x1 1)))) then
      (0, 10)
    else
    if ((decide (x0.Op = 15)) || (decide (x0.Op = 16))) then
      (1, 0)
    else
    ((ix x1 0), 0)) fun k102 =>
  if (decide (x0.Op = 6)) then
    k102 (decide (x0.Op = 6))
  else
  k102 (decide (x0.Op = 7))

def m1_expr_Scope__check_L1 (x0 : expr_Scope) (x1 : List api_ExprNode) (rec_ : expr_Scope → (List api_ExprNode) → Int → (Int × Int × Int)) (K1 : Int → (List Int) → (Int × Int × Int)) : Nat → Int → Int → (List Int) → (Int × Int × Int)
  | 0, x7_, x44_, zE109 => K1 x7_ zE109
  | m + 1, x7_, x44_, zE109 =>
    LET (rec_ x0 x1 x7_) fun y112 =>
    if (!decide (y112.2.2 = 0)) then
      (0, 0, y112.2.2)
    else
    m1_expr_Scope__check_L1 x0 x1 rec_ K1 m y112.2.1 (x44_ + 1) (zE109.set x44_.toNat y112.1)
/-- (patchbay/expr.Scope).check -/
def m1_expr_Scope__check_B (rec_ : expr_Scope → (List api_ExprNode) → Int → (Int × Int × Int)) (x0 : expr_Scope) (x1 : List api_ExprNode) (x2 : Int) : Int × Int × Int :=
  if (decide ((x1.length : Int) ≤ x2)) then
    (0, 0, 3)
  else
  LET (expr_arity ((ix x1 x2).Op)) fun y103 =>
  if (decide (y103 < 0)) then
    (0, 0, 11)
  else
  if (decide (y103 = 0)) then
    LET (m1_expr_Scope__primary x0 (ix x1 x2)) fun y107 =>
    (y107.1, (wr (x2 + 1)), y107.2)
  else
  m1_expr_Scope__check_L1 x0 x1 rec_ (fun (x7_116 : Int) (zE109_116 : List Int) =>
      LET (expr_combine (ix x1 x2) zE109_116) fun y118 =>
      (y118.1, x7_116, y118.2)) (Int.toNat (y103 - 0)) (wr (x2 + 1)) 0 ([0, 0, 0] : List Int)
def m1_expr_Scope__check_R : Nat → expr_Scope → (List api_ExprNode) → Int → (Int × Int × Int)
  | 0, x0, x1, x2 => (0, 0, 1)
  | n_ + 1, x0, x1, x2 => m1_expr_Scope__check_B (m1_expr_Scope__check_R n_) x0 x1 x2
def m1_expr_Scope__check (x0 : expr_Scope) (x1 : List api_ExprNode) (x2 : Int) : Int × Int × Int := m1_expr_Scope__check_R ((x1.length - x2.toNat) + 1) x0 x1 x2

/-- patchbay/expr.Check -/
def expr_Check (x0 : List api_ExprNode) (x1 : expr_Scope) : Int × Int :=
  if (decide (24 < (x0.length : Int))) then
    (0, 12)
  else
  LET (m1_expr_Scope__check x1 x0 0) fun y102 =>
  if (!decide (y102.2.2 = 0)) then
    (0, y102.2.2)
  else
  if (decide (y102.2.1 < (x0.length : Int))) then
    (0, 4)
  else
  (y102.1, 0)

/-- patchbay/env.in[uint32] -/
def env_in_uint32 (x0 : List (BitVec 32)) (x1 : Int) : Bool :=
  ((decide (0 ≤ x1)) && (decide (x1 < (x0.length : Int))))

/-- patchbay/env.at[[]uint32] -/
def env_at__uint32_ (x0 : List (List (BitVec 32))) (x1 : Int) : (List (BitVec 32)) :=
  if ((decide (x1 < 0)) || (decide ((x0.length : Int) ≤ x1))) then
    ([] : List (BitVec 32))
  else
  (ix x0 x1)

/-- patchbay/env.at[bool] -/
def env_at_bool (x0 : List Bool) (x1 : Int) : Bool :=
  if ((decide (x1 < 0)) || (decide ((x0.length : Int) ≤ x1))) then
    false
  else
  (ix x0 x1)

/-- patchbay/env.element -/
def env_element (x0 : api_Env) (x1 : api_FieldRef) : (List (BitVec 32)) × Bool :=
  if (decide (x1 = ({ Header := (-1), Field := x1.Field } : api_FieldRef))) then
    LET (env_in_uint32 x0.Metd x1.Field) fun y104 =>
    (x0.Metd, y104)
  else
  LET (env_at__uint32_ x0.Fields x1.Header) fun y106 =>
  LET (env_at_bool x0.Valid x1.Header) fun y109 =>
  (y106, (y109 && (env_in_uint32 y106 x1.Field)))

/-- patchbay/env.Get -/
def env_Get (x0 : api_Env) (x1 : api_FieldRef) : (BitVec 32) :=
  LET (env_element x0 x1) fun y101 =>
  if (!y101.2) then
    0#32
  else
  (ix y101.1 x1.Field)

/-- (*patchbay/expr.machine).load -/
def m2_expr_machine__load (x0 : expr_machine) (x1 : api_ExprNode) : expr_value × expr_machine :=
  LET (m1_expr_Scope__primary x0.scope x1) fun y104 =>
  if (decide (x1.Op = 1)) then
    LET (bitvec_Mask y104.1) fun y106 =>
    (({ v := ((BitVec.ofInt 32 x1.N) &&& y106), w := y104.1 } : expr_value), x0)
  else
  if (decide (x1.Op = 2)) then
    LET (env_Get x0.env ({ Header := x1.N, Field := x1.W } : api_FieldRef)) fun y111 =>
    LET (bitvec_Mask y104.1) fun y112 =>
    (({ v := (y111 &&& y112), w := y104.1 } : expr_value), x0)
  else
  if (decide (x1.Op = 3)) then
    if (decide (x1.N < (x0.args.length : Int))) then
      LET (bitvec_Mask y104.1) fun y119 =>
      (({ v := ((ix x0.args x1.N) &&& y119), w := y104.1 } : expr_value), x0)
    else
    LET (bitvec_Mask y104.1) fun y122 =>
    (({ v := (0#32 &&& y122), w := y104.1 } : expr_value), x0)
  else
  if (decide (x1.Op = 4)) then
    if ((decide (x1.N < (x0.env.Valid.length : Int))) && (ix x0.env.Valid x1.N)) then
      LET (bitvec_Mask y104.1) fun y132 =>
      (({ v := (1#32 &&& y132), w := y104.1 } : expr_value), x0)
    else
    LET (bitvec_Mask y104.1) fun y135 =>
    (({ v := (0#32 &&& y135), w := y104.1 } : expr_value), x0)
  else
  LET (bitvec_Mask y104.1) fun y138 =>
  (({ v := (0#32 &&& y138), w := y104.1 } : expr_value), x0)

/-- patchbay/bitvec.Not -/
def bitvec_Not (x0 : BitVec 32) (x1 : Int) : (BitVec 32) :=
  LET (bitvec_Mask x1) fun y101 =>
  ((~~~x0) &&& y101)

/-- patchbay/bitvec.Shl -/
def bitvec_Shl (x0 : BitVec 32) (x1 : Int) (x2 : Int) : (BitVec 32) :=
  LET (bitvec_Mask x2) fun y101 =>
  ((x0 <<< (max x1 0).toNat) &&& y101)

/-- patchbay/bitvec.Shr -/
def bitvec_Shr (x0 : BitVec 32) (x1 : Int) (x2 : Int) : (BitVec 32) :=
  LET (bitvec_Mask x2) fun y101 =>
  ((x0 &&& y101) >>> (max x1 0).toNat)

/-- patchbay/bitvec.Slice -/
def bitvec_Slice (x0 : BitVec 32) (x1 : Int) (x2 : Int) : (BitVec 32) :=
  LET (bitvec_valid ([x2] : List Int)) fun y102 =>
  if (((!y102) || (decide (x1 < 0))) || (decide ((wr (32 - x2)) < x1))) then
    0#32
  else
  LET (bitvec_Mask x2) fun y106 =>
  ((x0 >>> x1.toNat) &&& y106)

/-- patchbay/expr.unary -/
def expr_unary (x0 : api_ExprNode) (x1 : expr_value) : expr_value :=
  if (decide (x0.Op = 5)) then
    LET (bitvec_Not x1.v x1.w) fun y104 =>
    ({ v := y104, w := x1.w } : expr_value)
  else
  if (decide (x0.Op = 6)) then
    LET (bitvec_Shl x1.v x0.N x1.w) fun y107 =>
    ({ v := y107, w := x1.w } : expr_value)
  else
  if (decide (x0.Op = 7)) then
    LET (bitvec_Shr x1.v x0.N x1.w) fun y110 =>
    ({ v := y110, w := x1.w } : expr_value)
  else
  LET (bitvec_Slice x1.v x0.N x0.W) fun y112 =>
  ({ v := y112, w := x0.W } : expr_value)

/-- patchbay/bitvec.Add -/
def bitvec_Add (x0 : BitVec 32) (x1 : BitVec 32) (x2 : Int) : (BitVec 32) :=
  LET (bitvec_Mask x2) fun y101 =>
  ((x0 + x1) &&& y101)

/-- patchbay/bitvec.Sub -/
def bitvec_Sub (x0 : BitVec 32) (x1 : BitVec 32) (x2 : Int) : (BitVec 32) :=
  LET (bitvec_Mask x2) fun y101 =>
  ((x0 - x1) &&& y101)

/-- patchbay/bitvec.Concat -/
def bitvec_Concat (x0 : BitVec 32) (x1 : Int) (x2 : BitVec 32) (x3 : Int) : (BitVec 32) × Bool :=
  LET (bitvec_valid ([x1, x3] : List Int)) fun y102 =>
  if ((!y102) || (decide (32 < (wr (x1 + x3))))) then
    (0#32, false)
  else
  LET (bitvec_Mask x1) fun y105 =>
  LET (bitvec_Mask x3) fun y106 =>
  ((((x0 &&& y105) <<< x3.toNat) ||| (x2 &&& y106)), true)

/-- patchbay/expr.truth -/
def expr_truth (x0 : Bool) : expr_value :=
  if x0 then
    ({ v := 1#32, w := 1 } : expr_value)
  else
  ({ v := 0#32, w := 1 } : expr_value)

/-- patchbay/expr.binary -/
def expr_binary (x0 : Int) (x1 : expr_value) (x2 : expr_value) : expr_value :=
  if (decide (x0 = 9)) then
    LET (bitvec_Add x1.v x2.v x1.w) fun y104 =>
    ({ v := y104, w := x1.w } : expr_value)
  else
  if (decide (x0 = 10)) then
    LET (bitvec_Sub x1.v x2.v x1.w) fun y107 =>
    ({ v := y107, w := x1.w } : expr_value)
  else
  if (decide (x0 = 11)) then
    ({ v := (x1.v &&& x2.v), w := x1.w } : expr_value)
  else
  if (decide (x0 = 12)) then
    ({ v := (x1.v ||| x2.v), w := x1.w } : expr_value)
  else
  if (decide (x0 = 13)) then
    ({ v := (x1.v ^^^ x2.v), w := x1.w } : expr_value)
  else
  if (decide (x0 = 14)) then
    LET (bitvec_Concat x1.v x1.w x2.v x2.w) fun y116 =>
    ({ v := y116.1, w := (wr (x1.w + x2.w)) } : expr_value)
  else
  if (decide (x0 = 15)) then
    LET (expr_truth (decide (x1.v = x2.v))) fun y119 =>
    y119
  else
  LET (expr_truth (decide (x1.v < x2.v))) fun y122 =>
  y122

/-- (*patchbay/expr.machine).eval -/
def m2_expr_machine__eval_B (rec_ : expr_machine → (expr_value × expr_machine)) (x0 : expr_machine) : expr_value × expr_machine :=
  LET (expr_arity ((ix x0.nodes x0.next).Op)) fun y111 =>
  if (decide (y111 = 0)) then
    LET (m2_expr_machine__load ({ scope := x0.scope, env := x0.env, args := x0.args, nodes := x0.nodes, next := (wr (x0.next + 1)) } : expr_machine) (ix x0.nodes x0.next)) fun y113 =>
    (y113.1, y113.2)
  else
  if (decide (y111 = 1)) then
    LET (rec_ ({ scope := x0.scope, env := x0.env, args := x0.args, nodes := x0.nodes, next := (wr (x0.next + 1)) } : expr_machine)) fun y119 =>
    LET (expr_unary (ix x0.nodes x0.next) y119.1) fun y122 =>
    (y122, y119.2)
  else
  if (decide (y111 = 2)) then
    LET (rec_ ({ scope := x0.scope, env := x0.env, args := x0.args, nodes := x0.nodes, next := (wr (x0.next + 1)) } : expr_machine)) fun y127 =>
    LET (rec_ y127.2) fun y133 =>
    LET (expr_binary ((ix x0.nodes x0.next).Op) y127.1 y133.1) fun y139 =>
    (y139, y133.2)
  else
  LET (rec_ ({ scope := x0.scope, env := x0.env, args := x0.args, nodes := x0.nodes, next := (wr (x0.next + 1)) } : expr_machine)) fun y143 =>
  LET (rec_ y143.2) fun y149 =>
  LET (rec_ y149.2) fun y155 =>
  if (decide (y143.1.v = 1#32)) then
    (y149.1, y155.2)
  else
  (y155.1, y155.2)
def m2_expr_machine__eval_R : Nat → expr_machine → (expr_value × expr_machine)
  | 0, x0 => (default, { x0 with next := (m1_expr_Scope__check x0.scope x0.nodes x0.next).2.1 })
  | n_ + 1, x0 => m2_expr_machine__eval_B (m2_expr_machine__eval_R n_) x0
def m2_expr_machine__eval (x0 : expr_machine) : expr_value × expr_machine := m2_expr_machine__eval_R (x0.nodes.length - x0.next.toNat + 1) x0

/-- patchbay/expr.Eval -/
def expr_Eval (x0 : List api_ExprNode) (x1 : expr_Scope) (x2 : api_Env) (x3 : List (BitVec 32)) : (BitVec 32) :=
  LET (expr_Check x0 x1) fun y101 =>
  if (!decide (y101.2 = 0)) then
    0#32
  else
  LET (m2_expr_machine__eval ({ scope := x1, env := x2, args := x3, nodes := x0, next := 0 } : expr_machine)) fun y108 =>
  y108.1.v

/-- patchbay/patchbayref13.Arity -/
def ref13_Arity (x0 : Int) : Int :=
  if ((decide (1 ≤ x0)) && (decide (x0 ≤ 4))) then
    0
  else
  if ((decide (5 ≤ x0)) && (decide (x0 ≤ 8))) then
    1
  else
  if ((decide (9 ≤ x0)) && (decide (x0 ≤ 16))) then
    2
  else
  if (decide (x0 = 17)) then
    3
  else
  (-1)

/-- patchbay/patchbayref13.wide -/
def ref13_wide (x0 : Int) : Int × Int :=
  if ((decide (x0 < 1)) || (decide (32 < x0))) then
    (0, 10)
  else
  (x0, 0)

/-- patchbay/patchbayref01.valid -/
def ref01_valid (x0 : Int) : Bool :=
  ((decide (1 ≤ x0)) && (decide (x0 ≤ 32)))

def ref01_power_L1 (K0 : (BitVec 64) → (BitVec 64)) : Nat → (BitVec 64) → Int → (BitVec 64)
  | 0, x3_, x4_ => K0 x3_
  | m + 1, x3_, x4_ =>
    ref01_power_L1 K0 m (2#64 * x3_) (x4_ + 1)
/-- patchbay/patchbayref01.power -/
def ref01_power (x0 : Int) : (BitVec 64) :=
  ref01_power_L1 (fun (x3_103 : BitVec 64) =>
      x3_103) (Int.toNat (x0 - 0)) 1#64 0

/-- patchbay/patchbayref01.Mask -/
def ref01_Mask (x0 : Int) : (BitVec 32) :=
  LET (ref01_valid x0) fun y101 =>
  if (!y101) then
    0#32
  else
  LET (ref01_power x0) fun y103 =>
  (BitVec.setWidth 32 (y103 - 1#64))

/-- patchbay/patchbayref13.Declared -/
def ref13_Declared (x0 : api_Program) (x1 : api_FieldRef) : Int × Bool :=
  LET (fun (x6_109 : List api_Field) =>
    if ((decide (x1.Field < 0)) || (decide ((x6_109.length : Int) ≤ x1.Field))) then
      (0, false)
    else
    ((ix x6_109 x1.Field).Width, true)) fun k109 =>
  if (!decide (x1.Header = (-1))) then
    if ((decide (x1.Header < 0)) || (decide ((x0.Headers.length : Int) ≤ x1.Header))) then
      (0, false)
    else
    k109 ((ix x0.Headers x1.Header).Fields)
  else
  k109 x0.Metadata

/-- patchbay/patchbayref13.leaf -/
def ref13_leaf (x0 : api_ExprNode) (x1 : expr_Scope) : Int × Int :=
  if (decide (x0.Op = 1)) then
    LET (ref13_wide x0.W) fun y102 =>
    if ((decide (y102.2 = 0)) && ((decide (x0.N < 0)) || (decide (((ref01_Mask y102.1).toNat : Int) < x0.N)))) then
      (0, 9)
    else
    (y102.1, y102.2)
  else
  if (decide (x0.Op = 2)) then
    LET (ref13_Declared x1.Program ({ Header := x0.N, Field := x0.W } : api_FieldRef)) fun y109 =>
    if (!y109.2) then
      (0, 8)
    else
    LET (ref13_wide y109.1) fun y111 =>
    (y111.1, y111.2)
  else
  if (decide (x0.Op = 3)) then
    if ((decide (x0.N < 0)) || (decide ((x1.Params.length : Int) ≤ x0.N))) then
      (0, 8)
    else
    LET (ref13_wide ((ix x1.Params x0.N).Width)) fun y118 =>
    (y118.1, y118.2)
  else
  if ((decide (x0.N < 0)) || (decide ((x1.Program.Headers.length : Int) ≤ x0.N))) then
    (0, 8)
  else
  (1, 0)

/-- patchbay/patchbayref13.operator -/
def ref13_operator (x0 : api_ExprNode) (x1 : List Int) : Int × Int :=
  if (decide (x0.Op = 5)) then
    ((ix x1 0), 0)
  else
  LET (fun (x13_103 : Bool) =>
    if x13_103 then
      if ((decide (x0.N < 0)) || (decide (31 < x0.N))) then
        (0, 9)
      else
      ((ix x1 0), 0)
    else
    if (decide (x0.Op = 8)) then
      if (decide (x0.N < 0)) then
        (0, 9)
      else
      if (((decide (x0.W < 1)) || (decide (32 < x0.W))) || (decide ((wr ((ix x1 0) - x0.W)) < x0.N))) then
        (0, 10)
      else
      (x0.W, 0)
    else
    if (decide (x0.Op = 14)) then
      LET (ref13_wide (wr ((ix x1 0) + (ix x1 1)))) fun y113 =>
      (y113.1, y113.2)
    else
    if (decide (x0.Op = 17)) then
      if ((!decide ((ix x1 0) = 1)) || (!decide ((ix x1 1) = (ix x1 2)))) then
        (0, 10)
      else
      ((ix x1 1), 0)
    else
    if (!decide ((ix x1 0) = (ix x1 1))) then
      (0, 10)
    else
    if ((decide (x0.Op = 15)) || (decide (x0.Op = 16))) then
      (1, 0)
    else
    ((ix x1 0), 0)) fun k103 =>
  if (decide (x0.Op = 6)) then
    k103 (decide (x0.Op = 6))
  else
  k103 (decide (x0.Op = 7))

def ref13_check_L1 (x0 : List api_ExprNode) (x2 : expr_Scope) (rec_ : (List api_ExprNode) → Int → expr_Scope → (Int × Int × Int)) (K0 : Int → (List Int) → (Int × Int × Int)) : Nat → Int → Int → (List Int) → (Int × Int × Int)
  | 0, x13_, x14_, zE109 => K0 x13_ zE109
  | m + 1, x13_, x14_, zE109 =>
    LET (rec_ x0 x13_ x2) fun y112 =>
    if (!decide (y112.2.2 = 0)) then
      (0, y112.2.1, y112.2.2)
    else
    ref13_check_L1 x0 x2 rec_ K0 m y112.2.1 (x14_ + 1) (zE109 ++ ([y112.1] : List Int))
/-- patchbay/patchbayref13.check -/
def ref13_check_B (rec_ : (List api_ExprNode) → Int → expr_Scope → (Int × Int × Int)) (x0 : List api_ExprNode) (x1 : Int) (x2 : expr_Scope) : Int × Int × Int :=
  if (decide ((x0.length : Int) ≤ x1)) then
    (0, x1, 3)
  else
  LET (ref13_Arity ((ix x0 x1).Op)) fun y103 =>
  if (decide (y103 < 0)) then
    (0, x1, 11)
  else
  if (decide (y103 = 0)) then
    LET (ref13_leaf (ix x0 x1) x2) fun y107 =>
    (y107.1, (wr (x1 + 1)), y107.2)
  else
  ref13_check_L1 x0 x2 rec_ (fun (x13_116 : Int) (zE109_116 : List Int) =>
      LET (ref13_operator (ix x0 x1) zE109_116) fun y118 =>
      (y118.1, x13_116, y118.2)) (Int.toNat (y103 - 0)) (wr (x1 + 1)) 0 ([] : List Int)
def ref13_check_R : Nat → (List api_ExprNode) → Int → expr_Scope → (Int × Int × Int)
  | 0, x0, x1, x2 => (0, 0, 1)
  | n_ + 1, x0, x1, x2 => ref13_check_B (ref13_check_R n_) x0 x1 x2
def ref13_check (x0 : List api_ExprNode) (x1 : Int) (x2 : expr_Scope) : Int × Int × Int := ref13_check_R ((x0.length - x1.toNat) + 1) x0 x1 x2

/-- patchbay/patchbayref13.Check -/
def ref13_Check (x0 : List api_ExprNode) (x1 : expr_Scope) : Int × Int :=
  if (decide (24 < (x0.length : Int))) then
    (0, 12)
  else
  LET (ref13_check x0 0 x1) fun y102 =>
  if (!decide (y102.2.2 = 0)) then
    (0, y102.2.2)
  else
  if (decide (y102.2.1 < (x0.length : Int))) then
    (0, 4)
  else
  (y102.1, 0)

/-- patchbay/patchbayref12.element -/
def ref12_element (x0 : api_Env) (x1 : api_FieldRef) : Bool :=
  if (decide (x1.Header = (-1))) then
    ((decide (0 ≤ x1.Field)) && (decide (x1.Field < (x0.Metd.length : Int))))
  else
  ((((decide (0 ≤ x1.Header)) && (decide (x1.Header < (x0.Fields.length : Int)))) && (decide (0 ≤ x1.Field))) && (decide (x1.Field < ((ix x0.Fields x1.Header).length : Int))))

/-- patchbay/patchbayref12.Has -/
def ref12_Has (x0 : api_Env) (x1 : Int) : Bool :=
  (((decide (0 ≤ x1)) && (decide (x1 < (x0.Valid.length : Int)))) && (ix x0.Valid x1))

/-- patchbay/patchbayref12.Get -/
def ref12_Get (x0 : api_Env) (x1 : api_FieldRef) : (BitVec 32) :=
  LET (ref12_element x0 x1) fun y101 =>
  if (!y101) then
    0#32
  else
  if (decide (x1.Header = (-1))) then
    (ix x0.Metd x1.Field)
  else
  LET (ref12_Has x0 x1.Header) fun y105 =>
  if (!y105) then
    0#32
  else
  (ix (ix x0.Fields x1.Header) x1.Field)

/-- patchbay/patchbayref01.Reduce -/
def ref01_Reduce (x0 : BitVec 64) (x1 : Int) : (BitVec 32) :=
  LET (ref01_valid x1) fun y101 =>
  if (!y101) then
    0#32
  else
  LET (ref01_power x1) fun y103 =>
  (BitVec.setWidth 32 (x0 % y103))

/-- patchbay/patchbayref13.bit -/
def ref13_bit (x0 : Bool) : (BitVec 32) :=
  if x0 then
    1#32
  else
  0#32

/-- patchbay/patchbayref01.Not -/
def ref01_Not (x0 : BitVec 32) (x1 : Int) : (BitVec 32) :=
  LET (ref01_Mask x1) fun y101 =>
  LET (ref01_Reduce (BitVec.setWidth 64 x0) x1) fun y102 =>
  (y101 - y102)

def ref01_Shl_L1 (x1 : Int) (x2 : Int) (K0 : (BitVec 32) → (BitVec 32)) : Nat → (BitVec 32) → Int → (BitVec 32)
  | 0, x7_, x8_ => K0 x7_
  | m + 1, x7_, x8_ =>
    if ((decide (x8_ < x1)) && (decide (x8_ < 32))) then
      LET (ref01_Reduce (2#64 * (BitVec.setWidth 64 x7_)) x2) fun y106 =>
      ref01_Shl_L1 x1 x2 K0 m y106 (x8_ + 1)
    else
    K0 x7_
/-- patchbay/patchbayref01.Shl -/
def ref01_Shl (x0 : BitVec 32) (x1 : Int) (x2 : Int) : (BitVec 32) :=
  LET (ref01_Reduce (BitVec.setWidth 64 x0) x2) fun y101 =>
  ref01_Shl_L1 x1 x2 (fun (x7_107 : BitVec 32) =>
      x7_107) (Int.toNat (x1 - 0)) y101 0

def ref01_Shr_L1 (x1 : Int) (K0 : (BitVec 32) → (BitVec 32)) : Nat → (BitVec 32) → Int → (BitVec 32)
  | 0, x7_, x8_ => K0 x7_
  | m + 1, x7_, x8_ =>
    if ((decide (x8_ < x1)) && (decide (x8_ < 32))) then
      ref01_Shr_L1 x1 K0 m (x7_ / 2#32) (x8_ + 1)
    else
    K0 x7_
/-- patchbay/patchbayref01.Shr -/
def ref01_Shr (x0 : BitVec 32) (x1 : Int) (x2 : Int) : (BitVec 32) :=
  LET (ref01_Reduce (BitVec.setWidth 64 x0) x2) fun y101 =>
  ref01_Shr_L1 x1 (fun (x7_106 : BitVec 32) =>
      x7_106) (Int.toNat (x1 - 0)) y101 0

/-- patchbay/patchbayref01.Slice -/
def ref01_Slice (x0 : BitVec 32) (x1 : Int) (x2 : Int) : (BitVec 32) :=
  LET (ref01_valid x2) fun y101 =>
  if (((!y101) || (decide (x1 < 0))) || (decide ((wr (32 - x2)) < x1))) then
    0#32
  else
  LET (ref01_power x1) fun y105 =>
  LET (ref01_Reduce ((BitVec.setWidth 64 x0) / y105) x2) fun y106 =>
  y106

/-- patchbay/patchbayref01.Add -/
def ref01_Add (x0 : BitVec 32) (x1 : BitVec 32) (x2 : Int) : (BitVec 32) :=
  LET (ref01_Reduce ((BitVec.setWidth 64 x0) + (BitVec.setWidth 64 x1)) x2) fun y101 =>
  y101

/-- patchbay/patchbayref01.Sub -/
def ref01_Sub (x0 : BitVec 32) (x1 : BitVec 32) (x2 : Int) : (BitVec 32) :=
  LET (ref01_valid x2) fun y101 =>
  if (!y101) then
    0#32
  else
  LET (ref01_power x2) fun y103 =>
  LET (ref01_Reduce (BitVec.setWidth 64 x0) x2) fun y104 =>
  LET (ref01_Reduce (BitVec.setWidth 64 x1) x2) fun y105 =>
  LET (ref01_Reduce ((y103 + (BitVec.setWidth 64 y104)) - (BitVec.setWidth 64 y105)) x2) fun y106 =>
  y106

/-- patchbay/patchbayref01.Concat -/
def ref01_Concat (x0 : BitVec 32) (x1 : Int) (x2 : BitVec 32) (x3 : Int) : (BitVec 32) × Bool :=
  LET (ref01_valid x1) fun y101 =>
  if (((!y101) || (!(ref01_valid x3))) || (decide (32 < (wr (x1 + x3))))) then
    (0#32, false)
  else
  LET (ref01_Reduce (BitVec.setWidth 64 x0) x1) fun y106 =>
  LET (ref01_power x3) fun y107 =>
  LET (ref01_Reduce (BitVec.setWidth 64 x2) x3) fun y108 =>
  (((BitVec.setWidth 32 ((BitVec.setWidth 64 y106) * y107)) + y108), true)

/-- patchbay/patchbayref13.apply -/
def ref13_apply (x0 : api_ExprNode) (x1 : List ref13_Value) : (BitVec 32) :=
  if (decide (x0.Op = 5)) then
    LET (ref01_Not ((ix x1 0).V) ((ix x1 0).W)) fun y104 =>
    y104
  else
  if (decide (x0.Op = 6)) then
    LET (ref01_Shl ((ix x1 0).V) x0.N ((ix x1 0).W)) fun y107 =>
    y107
  else
  if (decide (x0.Op = 7)) then
    LET (ref01_Shr ((ix x1 0).V) x0.N ((ix x1 0).W)) fun y110 =>
    y110
  else
  if (decide (x0.Op = 8)) then
    LET (ref01_Slice ((ix x1 0).V) x0.N x0.W) fun y113 =>
    y113
  else
  if (decide (x0.Op = 9)) then
    LET (ref01_Add ((ix x1 0).V) ((ix x1 1).V) ((ix x1 0).W)) fun y117 =>
    y117
  else
  if (decide (x0.Op = 10)) then
    LET (ref01_Sub ((ix x1 0).V) ((ix x1 1).V) ((ix x1 0).W)) fun y121 =>
    y121
  else
  if (decide (x0.Op = 11)) then
    (((ix x1 0).V) &&& ((ix x1 1).V))
  else
  if (decide (x0.Op = 12)) then
    (((ix x1 0).V) ||| ((ix x1 1).V))
  else
  if (decide (x0.Op = 13)) then
    (((ix x1 0).V) ^^^ ((ix x1 1).V))
  else
  if (decide (x0.Op = 14)) then
    LET (ref01_Concat ((ix x1 0).V) ((ix x1 0).W) ((ix x1 1).V) ((ix x1 1).W)) fun y135 =>
    y135.1
  else
  if (decide (x0.Op = 15)) then
    LET (ref13_bit (decide (((ix x1 0).V) = ((ix x1 1).V)))) fun y139 =>
    y139
  else
  if (decide (x0.Op = 16)) then
    LET (ref13_bit (decide (((ix x1 0).V) < ((ix x1 1).V)))) fun y143 =>
    y143
  else
  if (decide (((ix x1 0).V) = 1#32)) then
    (ix x1 1).V
  else
  (ix x1 2).V

def ref13_eval_L1 (x0 : List api_ExprNode) (x1 : Int) (x2 : expr_Scope) (x3 : api_Env) (x4 : List (BitVec 32)) (rec_ : (List api_ExprNode) → Int → expr_Scope → api_Env → (List (BitVec 32)) → ref13_Value) (K1 : Int → (List ref13_Value) → ref13_Value) : Nat → Int → Int → (List ref13_Value) → ref13_Value
  | 0, x17_, x18_, zE128 => K1 x17_ zE128
  | m + 1, x17_, x18_, zE128 =>
    LET (ref13_Arity ((ix x0 x1).Op)) fun y132 =>
    if (decide (x18_ < y132)) then
      LET (rec_ x0 x17_ x2 x3 x4) fun y134 =>
      ref13_eval_L1 x0 x1 x2 x3 x4 rec_ K1 m y134.To (wr (x18_ + 1)) (zE128 ++ ([y134] : List ref13_Value))
    else
    K1 x17_ zE128
/-- patchbay/patchbayref13.eval -/
def ref13_eval_B (rec_ : (List api_ExprNode) → Int → expr_Scope → api_Env → (List (BitVec 32)) → ref13_Value) (x0 : List api_ExprNode) (x1 : Int) (x2 : expr_Scope) (x3 : api_Env) (x4 : List (BitVec 32)) : ref13_Value :=
  LET (ref13_check x0 x1 x2) fun y107 =>
  if (decide (((ix x0 x1).Op) = 1)) then
    ({ V := (BitVec.ofInt 32 ((ix x0 x1).N)), W := y107.1, To := (wr (x1 + 1)) } : ref13_Value)
  else
  if (decide (((ix x0 x1).Op) = 2)) then
    LET (ref12_Get x3 ({ Header := (ix x0 x1).N, Field := (ix x0 x1).W } : api_FieldRef)) fun y111 =>
    LET (ref01_Reduce (BitVec.setWidth 64 y111) y107.1) fun y112 =>
    ({ V := y112, W := y107.1, To := (wr (x1 + 1)) } : ref13_Value)
  else
  if (decide (((ix x0 x1).Op) = 3)) then
    LET (fun (x15_117 : BitVec 32) =>
      ({ V := x15_117, W := y107.1, To := (wr (x1 + 1)) } : ref13_Value)) fun k117 =>
    if (decide (((ix x0 x1).N) < (x4.length : Int))) then
      LET (ref01_Reduce (BitVec.setWidth 64 (ix x4 ((ix x0 x1).N))) y107.1) fun y120 =>
      k117 y120
    else
    k117 0#32
  else
  if (decide (((ix x0 x1).Op) = 4)) then
    LET (ref13_bit ((decide (((ix x0 x1).N) < (x3.Valid.length : Int))) && (ix x3.Valid ((ix x0 x1).N)))) fun y125 =>
    ({ V := y125, W := y107.1, To := (wr (x1 + 1)) } : ref13_Value)
  else
  ref13_eval_L1 x0 x1 x2 x3 x4 rec_ (fun (x17_141 : Int) (zE128_141 : List ref13_Value) =>
      LET (ref13_apply (ix x0 x1) zE128_141) fun y142 =>
      ({ V := y142, W := y107.1, To := x17_141 } : ref13_Value)) (Int.toNat ((ref13_Arity ((ix x0 x1).Op) - 0))) (wr (x1 + 1)) 0 ([] : List ref13_Value)
def ref13_eval_R : Nat → (List api_ExprNode) → Int → expr_Scope → api_Env → (List (BitVec 32)) → ref13_Value
  | 0, x0, x1, x2, x3, x4 => { V := 0#32, W := 0, To := (m1_expr_Scope__check x2 x0 x1).2.1 }
  | n_ + 1, x0, x1, x2, x3, x4 => ref13_eval_B (ref13_eval_R n_) x0 x1 x2 x3 x4
def ref13_eval (x0 : List api_ExprNode) (x1 : Int) (x2 : expr_Scope) (x3 : api_Env) (x4 : List (BitVec 32)) : ref13_Value := ref13_eval_R ((x0.length - x1.toNat) + 1) x0 x1 x2 x3 x4

/-- patchbay/patchbayref13.Eval -/
def ref13_Eval (x0 : List api_ExprNode) (x1 : expr_Scope) (x2 : api_Env) (x3 : List (BitVec 32)) : (BitVec 32) :=
  LET (ref13_Check x0 x1) fun y101 =>
  if (!decide (y101.2 = 0)) then
    0#32
  else
  LET (ref13_eval x0 0 x1 x2 x3) fun y103 =>
  y103.V

/-- patchbay/patchbaylaw13.ExprEvaluates -/
def law13_ExprEvaluates (x0 : law13_Args) : Bool :=
  if (decide (100 < (x0.Nodes.length : Int))) then
    LET (law13_awake) fun y103 =>
    y103
  else
  LET (m1_law13_Args__scope x0) fun y105 =>
  LET (expr_Eval x0.Nodes y105 x0.E x0.Args) fun y109 =>
  LET (ref13_Eval x0.Nodes ({ Program := x0.P, Params := x0.Params } : expr_Scope) x0.E x0.Args) fun y116 =>
  ((decide (y109 = y116)) && (law13_awake))

/-- patchbay/patchbaylaw13.constant -/
def law13_constant (x0 : Int) : api_ExprNode :=
  ({ Op := 1, N := x0, W := 8 } : api_ExprNode)

end Go.Proofs.YtfekghenlhoamaaGreat
