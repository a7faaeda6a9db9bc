/-
  Each function of this seat as a plain program.
-/
import Derived.Test.YtmonnlkagniolaaGreatKTy
import Derived.Test.YtmonnlkagniolaaGreatPbC
import Derived.Test.YtmonnlkagniolaaGreatKEp
set_option linter.unusedVariables false
set_option linter.unusedSimpArgs false
set_option maxRecDepth 100000
namespace Go.Proofs.YtmonnlkagniolaaGreat
open Go Go.Pb Go.RowKit
def law16_Small_L2 (x0 : api_Program) (x3_ : Int) (K2 : Unit → Bool) : Nat → Int → Bool
  | 0, x4_ => K2 ()
  | m + 1, x4_ =>
    if ((decide (60 < (((ix ((ix x0.Actions x3_).Body) x4_).Index).length : Int))) || (decide (60 < (((ix ((ix x0.Actions x3_).Body) x4_).Value).length : Int)))) then
      false
    else
    law16_Small_L2 x0 x3_ K2 m (x4_ + 1)
def law16_Small_L1 (x0 : api_Program) (K0 : Unit → Bool) : Nat → Int → Bool
  | 0, x3_ => K0 ()
  | m + 1, x3_ =>
    if ((decide (20 < (((ix x0.Actions x3_).Params).length : Int))) || (decide (30 < (((ix x0.Actions x3_).Body).length : Int)))) then
      false
    else
    law16_Small_L2 x0 x3_ (fun (_ : Unit) =>
        law16_Small_L1 x0 K0 m (x3_ + 1)) (Int.toNat ((((ix x0.Actions x3_).Body).length : Int) - 0)) 0
def law16_Small_L3 (x0 : api_Program) (K4 : Unit → Bool) : Nat → Int → Bool
  | 0, x5_ => K4 ()
  | m + 1, x5_ =>
    if (decide (40 < (((ix x0.Headers x5_).Fields).length : Int))) then
      false
    else
    law16_Small_L3 x0 K4 m (x5_ + 1)
def law16_Small_L4 (x0 : api_Program) (K6 : Unit → Bool) : Nat → Int → Bool
  | 0, x6_ => K6 ()
  | m + 1, x6_ =>
    if (decide (200 < ((ix x0.Registers x6_).Size))) then
      false
    else
    law16_Small_L4 x0 K6 m (x6_ + 1)
/-- patchbay/patchbaylaw16.Small -/
def law16_Small (x0 : api_Program) : Bool :=
  if ((((decide (20 < (x0.Headers.length : Int))) || (decide (30 < (x0.Metadata.length : Int)))) || (decide (20 < (x0.Registers.length : Int)))) || (decide (40 < (x0.Actions.length : Int)))) then
    false
  else
  law16_Small_L1 x0 (fun (_ : Unit) =>
      law16_Small_L3 x0 (fun (_ : Unit) =>
          law16_Small_L4 x0 (fun (_ : Unit) =>
              true) (Int.toNat ((x0.Registers.length : Int) - 0)) 0) (Int.toNat ((x0.Headers.length : Int) - 0)) 0) (Int.toNat ((x0.Actions.length : Int) - 0)) 0

def ref12_sized_L1 (x0 : api_Program) (x1 : api_Env) (K0 : Unit → Bool) : Nat → Int → Bool
  | 0, x5_ => K0 ()
  | m + 1, x5_ =>
    if (!decide (((ix x1.Fields x5_).length : Int) = (((ix x0.Headers x5_).Fields).length : Int))) then
      false
    else
    ref12_sized_L1 x0 x1 K0 m (x5_ + 1)
/-- patchbay/patchbayref12.sized -/
def ref12_sized (x0 : api_Program) (x1 : api_Env) : Bool :=
  if (((!decide ((x1.Valid.length : Int) = (x0.Headers.length : Int))) || (!decide ((x1.Fields.length : Int) = (x0.Headers.length : Int)))) || (!decide ((x1.Metd.length : Int) = (x0.Metadata.length : Int)))) then
    false
  else
  ref12_sized_L1 x0 x1 (fun (_ : Unit) =>
      true) (Int.toNat ((x0.Headers.length : Int) - 0)) 0

/-- patchbay/patchbayref12.Width -/
def ref12_Width (x0 : api_Program) (x1 : api_FieldRef) : Int :=
  LET (fun (x5_108 : List api_Field) =>
    if (((((decide (x1.Header < (-1))) || (decide (x1.Field < 0))) || (decide ((x5_108.length : Int) ≤ x1.Field))) || (decide (((ix x5_108 x1.Field).Width) < 1))) || (decide (32 < ((ix x5_108 x1.Field).Width)))) then
      0
    else
    (ix x5_108 x1.Field).Width) fun k108 =>
  if (decide (0 ≤ x1.Header)) then
    if (decide ((x0.Headers.length : Int) ≤ x1.Header)) then
      0
    else
    k108 ((ix x0.Headers x1.Header).Fields)
  else
  k108 x0.Metadata

def ref12_Fits_L1 (K0 : (BitVec 64) → Bool) : Nat → (BitVec 64) → Int → Bool
  | 0, x5_, x6_ => K0 x5_
  | m + 1, x5_, x6_ =>
    ref12_Fits_L1 K0 m (2#64 * x5_) (x6_ + 1)
/-- patchbay/patchbayref12.Fits -/
def ref12_Fits (x0 : BitVec 32) (x1 : Int) : Bool :=
  ref12_Fits_L1 (fun (x5_103 : BitVec 64) =>
      (decide ((BitVec.setWidth 64 x0) < x5_103))) (Int.toNat (x1 - 0)) 1#64 0

def ref12_Check_L2 (x0 : api_Program) (x1 : api_Env) (x5_ : Int) (K2 : Unit → Int) : Nat → Int → Int
  | 0, x6_ => K2 ()
  | m + 1, x6_ =>
    LET (ref12_Width x0 ({ Header := x5_, Field := x6_ } : api_FieldRef)) fun y115 =>
    LET (ref12_Fits (ix (ix x1.Fields x5_) x6_) y115) fun y116 =>
    if (!y116) then
      9
    else
    ref12_Check_L2 x0 x1 x5_ K2 m (x6_ + 1)
def ref12_Check_L1 (x0 : api_Program) (x1 : api_Env) (K0 : Unit → Int) : Nat → Int → Int
  | 0, x5_ => K0 ()
  | m + 1, x5_ =>
    ref12_Check_L2 x0 x1 x5_ (fun (_ : Unit) =>
        ref12_Check_L1 x0 x1 K0 m (x5_ + 1)) (Int.toNat (((ix x1.Fields x5_).length : Int) - 0)) 0
def ref12_Check_L3 (x0 : api_Program) (x1 : api_Env) (K4 : Unit → Int) : Nat → Int → Int
  | 0, x7_ => K4 ()
  | m + 1, x7_ =>
    LET (ref12_Width x0 ({ Header := (-1), Field := x7_ } : api_FieldRef)) fun y125 =>
    LET (ref12_Fits (ix x1.Metd x7_) y125) fun y126 =>
    if (!y126) then
      9
    else
    ref12_Check_L3 x0 x1 K4 m (x7_ + 1)
def ref12_Check_L5 (x1 : api_Env) (x8_ : Int) (K8 : Unit → Int) : Nat → Int → Int
  | 0, x9_ => K8 ()
  | m + 1, x9_ =>
    if ((!(ix x1.Valid x8_)) && (!decide ((ix (ix x1.Fields x8_) x9_) = 0#32))) then
      5
    else
    ref12_Check_L5 x1 x8_ K8 m (x9_ + 1)
def ref12_Check_L4 (x1 : api_Env) (K6 : Unit → Int) : Nat → Int → Int
  | 0, x8_ => K6 ()
  | m + 1, x8_ =>
    ref12_Check_L5 x1 x8_ (fun (_ : Unit) =>
        ref12_Check_L4 x1 K6 m (x8_ + 1)) (Int.toNat (((ix x1.Fields x8_).length : Int) - 0)) 0
/-- patchbay/patchbayref12.Check -/
def ref12_Check (x0 : api_Program) (x1 : api_Env) : Int :=
  LET (ref12_sized x0 x1) fun y101 =>
  if (!y101) then
    2
  else
  ref12_Check_L1 x0 x1 (fun (_ : Unit) =>
      ref12_Check_L3 x0 x1 (fun (_ : Unit) =>
          ref12_Check_L4 x1 (fun (_ : Unit) =>
              0) (Int.toNat ((x1.Fields.length : Int) - 0)) 0) (Int.toNat ((x1.Metd.length : Int) - 0)) 0) (Int.toNat ((x1.Fields.length : Int) - 0)) 0

/-- patchbay/patchbayref15.width -/
def ref15_width (x0 : api_Register) : Int :=
  if ((decide (x0.Width < 1)) || (decide (32 < x0.Width))) then
    0
  else
  x0.Width

def ref15_CheckContents_L1 (x0 : api_Program) (x1 : List (List (BitVec 32))) (K0 : Unit → Int) : Nat → Int → Int
  | 0, x5_ => K0 ()
  | m + 1, x5_ =>
    if (!decide (((ix x1 x5_).length : Int) = ((ix x0.Registers x5_).Size))) then
      2
    else
    ref15_CheckContents_L1 x0 x1 K0 m (x5_ + 1)
def ref15_CheckContents_L3 (x0 : api_Program) (x1 : List (List (BitVec 32))) (x6_ : Int) (K4 : Unit → Int) : Nat → Int → Int
  | 0, x7_ => K4 ()
  | m + 1, x7_ =>
    LET (ref15_width (ix x0.Registers x6_)) fun y119 =>
    LET (ref12_Fits (ix (ix x1 x6_) x7_) y119) fun y120 =>
    if (!y120) then
      9
    else
    ref15_CheckContents_L3 x0 x1 x6_ K4 m (x7_ + 1)
def ref15_CheckContents_L2 (x0 : api_Program) (x1 : List (List (BitVec 32))) (K2 : Unit → Int) : Nat → Int → Int
  | 0, x6_ => K2 ()
  | m + 1, x6_ =>
    ref15_CheckContents_L3 x0 x1 x6_ (fun (_ : Unit) =>
        ref15_CheckContents_L2 x0 x1 K2 m (x6_ + 1)) (Int.toNat (((ix x1 x6_).length : Int) - 0)) 0
/-- patchbay/patchbayref15.CheckContents -/
def ref15_CheckContents (x0 : api_Program) (x1 : List (List (BitVec 32))) : Int :=
  if (!decide ((x1.length : Int) = (x0.Registers.length : Int))) then
    2
  else
  ref15_CheckContents_L1 x0 x1 (fun (_ : Unit) =>
      ref15_CheckContents_L2 x0 x1 (fun (_ : Unit) =>
          0) (Int.toNat ((x1.length : Int) - 0)) 0) (Int.toNat ((x1.length : Int) - 0)) 0

/-- patchbay/patchbaylaw16.right -/
def law16_right (x0 : law16_Case) : Bool :=
  LET (ref12_Check x0.P x0.E) fun y103 =>
  ((decide (y103 = 0)) && (decide ((ref15_CheckContents x0.P x0.Regs) = 0)))

def law16_awake : Bool := true

def env_join_bool_L1 (x0 : List (List Bool)) (K0 : (List Bool) → (List Bool)) : Nat → Int → (List Bool) → (List Bool)
  | 0, x8_, zE102 => K0 zE102
  | m + 1, x8_, zE102 =>
    env_join_bool_L1 x0 K0 m (x8_ + 1) (zE102 ++ (ix x0 x8_))
/-- patchbay/env.join[bool] -/
def env_join_bool (x0 : List (List Bool)) : (List Bool) :=
  env_join_bool_L1 x0 (fun (zE102_107 : List Bool) =>
      zE102_107) (Int.toNat ((x0.length : Int) - 0)) 0 ([] : List Bool)

def env_join_uint32_L1 (x0 : List (List (BitVec 32))) (K0 : (List (BitVec 32)) → (List (BitVec 32))) : Nat → Int → (List (BitVec 32)) → (List (BitVec 32))
  | 0, x8_, zE102 => K0 zE102
  | m + 1, x8_, zE102 =>
    env_join_uint32_L1 x0 K0 m (x8_ + 1) (zE102 ++ (ix x0 x8_))
/-- patchbay/env.join[uint32] -/
def env_join_uint32 (x0 : List (List (BitVec 32))) : (List (BitVec 32)) :=
  env_join_uint32_L1 x0 (fun (zE102_107 : List (BitVec 32)) =>
      zE102_107) (Int.toNat ((x0.length : Int) - 0)) 0 ([] : List (BitVec 32))

def env_join_byte_L1 (x0 : List (List UInt8)) (K0 : (List UInt8) → (List UInt8)) : Nat → Int → (List UInt8) → (List UInt8)
  | 0, x8_, zE102 => K0 zE102
  | m + 1, x8_, zE102 =>
    env_join_byte_L1 x0 K0 m (x8_ + 1) (zE102 ++ (ix x0 x8_))
/-- patchbay/env.join[byte] -/
def env_join_byte (x0 : List (List UInt8)) : (List UInt8) :=
  env_join_byte_L1 x0 (fun (zE102_107 : List UInt8) =>
      zE102_107) (Int.toNat ((x0.length : Int) - 0)) 0 ([] : List UInt8)

def env_Clone (x0 : api_Env) : api_Env := x0

/-- patchbay/env.at[patchbay/api.Header] -/
def env_at_api_Header (x0 : List api_Header) (x1 : Int) : api_Header :=
  if ((decide (x1 < 0)) || (decide ((x0.length : Int) ≤ x1))) then
    ({ Name := ([] : List UInt8), Fields := ([] : List api_Field) } : api_Header)
  else
  (ix x0 x1)

/-- patchbay/env.fields -/
def env_fields (x0 : api_Program) (x1 : Int) : (List api_Field) :=
  if (decide (x1 = (-1))) then
    x0.Metadata
  else
  LET (env_at_api_Header x0.Headers x1) fun y104 =>
  y104.Fields

/-- patchbay/env.at[patchbay/api.Field] -/
def env_at_api_Field (x0 : List api_Field) (x1 : Int) : api_Field :=
  if ((decide (x1 < 0)) || (decide ((x0.length : Int) ≤ x1))) then
    ({ Name := ([] : List UInt8), Width := 0 } : api_Field)
  else
  (ix x0 x1)

def bitvec_valid_L1 (x0 : List Int) (K0 : Unit → Bool) : Nat → Int → Bool
  | 0, x7_ => K0 ()
  | m + 1, x7_ =>
    if ((decide ((ix x0 x7_) < 1)) || (decide (32 < (ix x0 x7_)))) then
      false
    else
    bitvec_valid_L1 x0 K0 m (x7_ + 1)
/-- patchbay/bitvec.valid -/
def bitvec_valid (x0 : List Int) : Bool :=
  bitvec_valid_L1 x0 (fun (_ : Unit) =>
      true) (Int.toNat ((x0.length : Int) - 0)) 0

/-- patchbay/bitvec.Mask -/
def bitvec_Mask (x0 : Int) : (BitVec 32) :=
  LET (bitvec_valid ([x0] : List Int)) fun y102 =>
  if (!y102) then
    0#32
  else
  (4294967295#32 >>> (wr (32 - x0)).toNat)

/-- patchbay/env.Width -/
def env_Width (x0 : api_Program) (x1 : api_FieldRef) : Int :=
  LET (env_fields x0 x1.Header) fun y101 =>
  LET (env_at_api_Field y101 x1.Field) fun y103 =>
  LET (bitvec_Mask y103.Width) fun y105 =>
  if (decide (y105 = 0#32)) then
    0
  else
  y103.Width

/-- patchbay/env.in[uint32] -/
def env_in_uint32 (x0 : List (BitVec 32)) (x1 : Int) : Bool :=
  ((decide (0 ≤ x1)) && (decide (x1 < (x0.length : Int))))

/-- patchbay/env.at[[]uint32] -/
def env_at__uint32_ (x0 : List (List (BitVec 32))) (x1 : Int) : (List (BitVec 32)) :=
  if ((decide (x1 < 0)) || (decide ((x0.length : Int) ≤ x1))) then
    ([] : List (BitVec 32))
  else
  (ix x0 x1)

/-- patchbay/env.at[bool] -/
def env_at_bool (x0 : List Bool) (x1 : Int) : Bool :=
  if ((decide (x1 < 0)) || (decide ((x0.length : Int) ≤ x1))) then
    false
  else
  (ix x0 x1)

/-- patchbay/env.element -/
def env_element (x0 : api_Env) (x1 : api_FieldRef) : (List (BitVec 32)) × Bool :=
  if (decide (x1 = ({ Header := (-1), Field := x1.Field } : api_FieldRef))) then
    LET (env_in_uint32 x0.Metd x1.Field) fun y104 =>
    (x0.Metd, y104)
  else
  LET (env_at__uint32_ x0.Fields x1.Header) fun y106 =>
  LET (env_at_bool x0.Valid x1.Header) fun y109 =>
  (y106, (y109 && (env_in_uint32 y106 x1.Field)))

def env_Set (x0 : api_Program) (x1 : api_Env) (x2 : api_FieldRef) (x3 : BitVec 32) : api_Env :=
  if (env_element x1 x2).2 && decide (0 < env_Width x0 x2) then putF x1 x2 (x3 &&& bitvec_Mask (env_Width x0 x2)) else x1

def action_duplicate (x0 : List (List (BitVec 32))) : List (List (BitVec 32)) := x0

/-- patchbay/lexer.isLetter -/
def lexer_isLetter (x0 : UInt8) : Bool :=
  (((decide ((97 : UInt8) ≤ x0)) && (decide (x0 ≤ (122 : UInt8)))) || ((decide ((65 : UInt8) ≤ x0)) && (decide (x0 ≤ (90 : UInt8)))))

def lexer_extent_L1 (x0 : List UInt8) (x1 : UInt8 → Bool) (K0 : Int → Int) : Nat → Int → Int
  | 0, x5_ => K0 x5_
  | m + 1, x5_ =>
    if ((decide (x5_ < (x0.length : Int))) && (x1 (ix x0 x5_))) then
      lexer_extent_L1 x0 x1 K0 m (x5_ + 1)
    else
    K0 x5_
/-- patchbay/lexer.extent -/
def lexer_extent (x0 : List UInt8) (x1 : UInt8 → Bool) : Int :=
  lexer_extent_L1 x0 x1 (fun (x5_107 : Int) =>
      x5_107) (Int.toNat ((x0.length : Int) - 0)) 0

/-- patchbay/lexer.isDigit -/
def lexer_isDigit (x0 : UInt8) : Bool :=
  ((decide ((48 : UInt8) ≤ x0)) && (decide (x0 ≤ (57 : UInt8))))

/-- patchbay/lexer.IsIdentifier$1 -/
def lexer_IsIdentifier_1 (x0 : UInt8) : Bool :=
  LET (lexer_isLetter x0) fun y101 =>
  ((y101 || (lexer_isDigit x0)) || (decide (x0 = (95 : UInt8))))

/-- patchbay/lexer.IsIdentifier -/
def lexer_IsIdentifier (x0 : List UInt8) : Bool :=
  if (((decide ((x0.length : Int) = 0)) || (decide (16 < (x0.length : Int)))) || (!(lexer_isLetter (ix x0 0)))) then
    false
  else
  LET (lexer_extent x0 lexer_IsIdentifier_1) fun y105 =>
  (decide (y105 = (x0.length : Int)))

/-- patchbay/action.declaration$1 -/
def action_declaration_1 (x0 : api_Field) (c0 : api_Field) : Bool :=
  (decide (x0.Name = c0.Name))

def slices_IndexFunc__api_Field_api_Field__L1 (x0 : List api_Field) (x1 : api_Field → Bool) (K0 : Unit → Int) : Nat → Int → Int
  | 0, x8_ => K0 ()
  | m + 1, x8_ =>
    if (x1 (ix x0 x8_)) then
      x8_
    else
    slices_IndexFunc__api_Field_api_Field__L1 x0 x1 K0 m (x8_ + 1)
/-- slices.IndexFunc[[]patchbay/api.Field,patchbay/api.Field] -/
def slices_IndexFunc__api_Field_api_Field_ (x0 : List api_Field) (x1 : api_Field → Bool) : Int :=
  slices_IndexFunc__api_Field_api_Field__L1 x0 x1 (fun (_ : Unit) =>
      (-1)) (Int.toNat ((x0.length : Int) - 0)) 0

/-- slices.ContainsFunc[[]patchbay/api.Field,patchbay/api.Field] -/
def slices_ContainsFunc__api_Field_api_Field_ (x0 : List api_Field) (x1 : api_Field → Bool) : Bool :=
  LET (slices_IndexFunc__api_Field_api_Field_ x0 x1) fun y101 =>
  (decide (0 ≤ y101))

def action_declaration_L1 (x0 : api_Action) (K1 : Unit → Int) : Nat → Int → Int
  | 0, x24_ => K1 ()
  | m + 1, x24_ =>
    LET (lexer_IsIdentifier ((ix x0.Params x24_).Name)) fun y114 =>
    if (!y114) then
      6
    else
    if ((decide (((ix x0.Params x24_).Width) < 1)) || (decide (32 < ((ix x0.Params x24_).Width)))) then
      10
    else
    LET (slices_ContainsFunc__api_Field_api_Field_ (sub x0.Params 0 x24_) (fun a_ => action_declaration_1 a_ (ix x0.Params x24_))) fun y122 =>
    if y122 then
      7
    else
    action_declaration_L1 x0 K1 m (x24_ + 1)
/-- patchbay/action.declaration -/
def action_declaration (x0 : api_Action) : Int :=
  LET (lexer_IsIdentifier x0.Name) fun y101 =>
  if (!y101) then
    6
  else
  if ((decide (4 < (x0.Params.length : Int))) || (decide (12 < (x0.Body.length : Int)))) then
    12
  else
  action_declaration_L1 x0 (fun (_ : Unit) =>
      0) (Int.toNat ((x0.Params.length : Int) - 0)) 0

/-- patchbay/action.width -/
def action_width (x0 : api_Program) (x1 : api_FieldRef) : Int × Bool :=
  LET (fun (x6_109 : List api_Field) =>
    if ((decide (x1.Field < 0)) || (decide ((x6_109.length : Int) ≤ x1.Field))) then
      (0, false)
    else
    ((ix x6_109 x1.Field).Width, true)) fun k109 =>
  if (!decide (x1.Header = (-1))) then
    if ((decide (x1.Header < 0)) || (decide ((x0.Headers.length : Int) ≤ x1.Header))) then
      (0, false)
    else
    k109 ((ix x0.Headers x1.Header).Fields)
  else
  k109 x0.Metadata

/-- patchbay/expr.arity -/
def expr_arity (x0 : Int) : Int :=
  LET (fun (x4_104 : Bool) =>
    if x4_104 then
      0
    else
    LET (fun (x9_109 : Bool) =>
      if x9_109 then
        1
      else
      LET (fun (x14_118 : Bool) =>
        if x14_118 then
          2
        else
        if (decide (x0 = 17)) then
          3
        else
        (-1)) fun k118 =>
      if (decide (x0 = 9)) then
        k118 (decide (x0 = 9))
      else
      if (decide (x0 = 10)) then
        k118 (decide (x0 = 10))
      else
      if (decide (x0 = 11)) then
        k118 (decide (x0 = 11))
      else
      if (decide (x0 = 12)) then
        k118 (decide (x0 = 12))
      else
      if (decide (x0 = 13)) then
        k118 (decide (x0 = 13))
      else
      if (decide (x0 = 14)) then
        k118 (decide (x0 = 14))
      else
      if (decide (x0 = 15)) then
        k118 (decide (x0 = 15))
      else
      k118 (decide (x0 = 16))) fun k109 =>
    if (decide (x0 = 5)) then
      k109 (decide (x0 = 5))
    else
    if (decide (x0 = 6)) then
      k109 (decide (x0 = 6))
    else
    if (decide (x0 = 7)) then
      k109 (decide (x0 = 7))
    else
    k109 (decide (x0 = 8))) fun k104 =>
  if (decide (x0 = 1)) then
    k104 (decide (x0 = 1))
  else
  if (decide (x0 = 2)) then
    k104 (decide (x0 = 2))
  else
  if (decide (x0 = 3)) then
    k104 (decide (x0 = 3))
  else
  k104 (decide (x0 = 4))

/-- patchbay/expr.wide -/
def expr_wide (x0 : Int) : Int × Int :=
  if ((decide (x0 < 1)) || (decide (32 < x0))) then
    (0, 10)
  else
  (x0, 0)

/-- (patchbay/expr.Scope).field -/
def m1_expr_Scope__field (x0 : expr_Scope) (x1 : Int) (x2 : Int) : api_Field × Bool :=
  LET (fun (x8_115 : List api_Field) =>
    if ((decide (x2 < 0)) || (decide ((x8_115.length : Int) ≤ x2))) then
      (({ Name := ([] : List UInt8), Width := 0 } : api_Field), false)
    else
    ((ix x8_115 x2), true)) fun k115 =>
  if (!decide (x1 = (-1))) then
    if ((decide (x1 < 0)) || (decide ((x0.Program.Headers.length : Int) ≤ x1))) then
      (({ Name := ([] : List UInt8), Width := 0 } : api_Field), false)
    else
    k115 ((ix x0.Program.Headers x1).Fields)
  else
  k115 x0.Program.Metadata

/-- (patchbay/expr.Scope).primary -/
def m1_expr_Scope__primary (x0 : expr_Scope) (x1 : api_ExprNode) : Int × Int :=
  if (decide (x1.Op = 1)) then
    LET (expr_wide x1.W) fun y102 =>
    if ((decide (y102.2 = 0)) && ((decide (x1.N < 0)) || (decide (((bitvec_Mask y102.1).toNat : Int) < x1.N)))) then
      (0, 9)
    else
    (y102.1, y102.2)
  else
  if (decide (x1.Op = 2)) then
    LET (m1_expr_Scope__field x0 x1.N x1.W) fun y108 =>
    if (!y108.2) then
      (0, 8)
    else
    LET (expr_wide y108.1.Width) fun y114 =>
    (y114.1, y114.2)
  else
  if (decide (x1.Op = 3)) then
    if ((decide (x1.N < 0)) || (decide ((x0.Params.length : Int) ≤ x1.N))) then
      (0, 8)
    else
    LET (expr_wide ((ix x0.Params x1.N).Width)) fun y121 =>
    (y121.1, y121.2)
  else
  if ((decide (x1.N < 0)) || (decide ((x0.Program.Headers.length : Int) ≤ x1.N))) then
    (0, 8)
  else
  (1, 0)

/-- patchbay/expr.combine -/
def expr_combine (x0 : api_ExprNode) (x1 : List Int) : Int × Int :=
  LET (fun (x10_102 : Bool) =>
    if x10_102 then
      if ((decide (x0.N < 0)) || (decide (31 < x0.N))) then
        (0, 9)
      else
      LET (expr_arity x0.Op) fun y106 =>
      if ((decide (y106 = 2)) && (!decide ((ix x1 0) = (ix x1 1)))) then
        (0, 10)
      else
      if ((decide (x0.Op = 15)) || (decide (x0.Op = 16))) then
        (1, 0)
      else
      ((ix x1 0), 0)
    else
    if (decide (x0.Op = 8)) then
      if (decide (x0.N < 0)) then
        (0, 9)
      else
      LET (expr_wide x0.W) fun y116 =>
      if ((!decide (y116.2 = 0)) || (decide ((wr ((ix x1 0) - x0.W)) < x0.N))) then
        (0, 10)
      else
      (x0.W, 0)
    else
    if (decide (x0.Op = 14)) then
      LET (expr_wide (wr ((ix x1 0) + (ix x1 1)))) fun y123 =>
      (y123.1, y123.2)
    else
    if (decide (x0.Op = 17)) then
      if ((!decide ((ix x1 0) = 1)) || (!decide ((ix x1 1) = (ix x1 2)))) then
        (0, 10)
      else
      ((ix x1 1), 0)
    else
    LET (expr_arity x0.Op) fun y131 =>
    if ((decide (y131 = 2)) && (!decide ((ix x1 0) = (ix x1 1)))) then
      (0, 10)
    else
    if ((decide (x0.Op = 15)) || (decide (x0.Op = 16))) then
      (1, 0)
    else
    ((ix x1 0), 0)) fun k102 =>
  if (decide (x0.Op = 6)) then
    k102 (decide (x0.Op = 6))
  else
  k102 (decide (x0.Op = 7))

def m1_expr_Scope__check_L1 (x0 : expr_Scope) (x1 : List api_ExprNode) (rec_ : expr_Scope → (List api_ExprNode) → Int → (Int × Int × Int)) (K1 : Int → (List Int) → (Int × Int × Int)) : Nat → Int → Int → (List Int) → (Int × Int × Int)
  | 0, x7_, x44_, zE109 => K1 x7_ zE109
  | m + 1, x7_, x44_, zE109 =>
    LET (rec_ x0 x1 x7_) fun y112 =>
    if (!decide (y112.2.2 = 0)) then
      (0, 0, y112.2.2)
    else
    m1_expr_Scope__check_L1 x0 x1 rec_ K1 m y112.2.1 (x44_ + 1) (zE109.set x44_.toNat y112.1)
/-- (patchbay/expr.Scope).check -/
def m1_expr_Scope__check_B (rec_ : expr_Scope → (List api_ExprNode) → Int → (Int × Int × Int)) (x0 : expr_Scope) (x1 : List api_ExprNode) (x2 : Int) : Int × Int × Int :=
  if (decide ((x1.length : Int) ≤ x2)) then
    (0, 0, 3)
  else
  LET (expr_arity ((ix x1 x2).Op)) fun y103 =>
  if (decide (y103 < 0)) then
    (0, 0, 11)
  else
  if (decide (y103 = 0)) then
    LET (m1_expr_Scope__primary x0 (ix x1 x2)) fun y107 =>
    (y107.1, (wr (x2 + 1)), y107.2)
  else
  m1_expr_Scope__check_L1 x0 x1 rec_ (fun (x7_116 : Int) (zE109_116 : List Int) =>
      LET (expr_combine (ix x1 x2) zE109_116) fun y118 =>
      (y118.1, x7_116, y118.2)) (Int.toNat (y103 - 0)) (wr (x2 + 1)) 0 ([0, 0, 0] : List Int)
def m1_expr_Scope__check_R : Nat → expr_Scope → (List api_ExprNode) → Int → (Int × Int × Int)
  | 0, x0, x1, x2 => (0, 0, 1)
  | n_ + 1, x0, x1, x2 => m1_expr_Scope__check_B (m1_expr_Scope__check_R n_) x0 x1 x2
def m1_expr_Scope__check (x0 : expr_Scope) (x1 : List api_ExprNode) (x2 : Int) : Int × Int × Int := m1_expr_Scope__check_R ((x1.length - x2.toNat) + 1) x0 x1 x2

/-- patchbay/expr.Check -/
def expr_Check (x0 : List api_ExprNode) (x1 : expr_Scope) : Int × Int :=
  if (decide (24 < (x0.length : Int))) then
    (0, 12)
  else
  LET (m1_expr_Scope__check x1 x0 0) fun y102 =>
  if (!decide (y102.2.2 = 0)) then
    (0, y102.2.2)
  else
  if (decide (y102.2.1 < (x0.length : Int))) then
    (0, 4)
  else
  (y102.1, 0)

/-- (patchbay/action.checker).value -/
def m1_action_checker__value (x0 : action_checker) (x1 : List api_ExprNode) (x2 : Int) : Int :=
  LET (expr_Check x1 x0.scope) fun y102 =>
  if ((decide (y102.2 = 0)) && (!decide (y102.1 = x2))) then
    10
  else
  y102.2

/-- (patchbay/action.checker).statement -/
def m1_action_checker__statement (x0 : action_checker) (x1 : api_Statement) : Int :=
  LET (action_width x0.scope.Program x1.Dst) fun y107 =>
  if (decide (x1.Kind = 1)) then
    if (!y107.2) then
      8
    else
    LET (m1_action_checker__value x0 x1.Value y107.1) fun y113 =>
    y113
  else
  LET (fun (x43_115 : Bool) =>
    if x43_115 then
      if ((decide (x1.Header < 0)) || (decide ((x0.scope.Program.Headers.length : Int) ≤ x1.Header))) then
        8
      else
      0
    else
    LET (fun (x57_121 : Bool) =>
      if x57_121 then
        if ((!((decide (0 ≤ x1.Register)) && (decide (x1.Register < (x0.scope.Program.Registers.length : Int))))) || ((decide (x1.Kind = 4)) && (!y107.2))) then
          8
        else
        LET (expr_Check x1.Index x0.scope) fun y128 =>
        if (!decide (y128.2 = 0)) then
          y128.2
        else
        if (decide (x1.Kind = 5)) then
          LET (m1_action_checker__value x0 x1.Value ((ix x0.scope.Program.Registers x1.Register).Width)) fun y134 =>
          y134
        else
        if (!decide (y107.1 = ((ix x0.scope.Program.Registers x1.Register).Width))) then
          10
        else
        0
      else
      11) fun k121 =>
    if (decide (x1.Kind = 4)) then
      k121 (decide (x1.Kind = 4))
    else
    k121 (decide (x1.Kind = 5))) fun k115 =>
  if (decide (x1.Kind = 2)) then
    k115 (decide (x1.Kind = 2))
  else
  k115 (decide (x1.Kind = 3))

def action_Check_L1 (x0 : api_Program) (x1 : Int) (K0 : Unit → (Int × Int)) : Nat → Int → (Int × Int)
  | 0, x37_ => K0 ()
  | m + 1, x37_ =>
    LET (m1_action_checker__statement ({ scope := ({ Program := x0, Params := (ix x0.Actions x1).Params } : expr_Scope) } : action_checker) (ix ((ix x0.Actions x1).Body) x37_)) fun y124 =>
    if (!decide (y124 = 0)) then
      (x37_, y124)
    else
    action_Check_L1 x0 x1 K0 m (x37_ + 1)
/-- patchbay/action.Check -/
def action_Check (x0 : api_Program) (x1 : Int) : Int × Int :=
  if ((decide (x1 < 0)) || (decide ((x0.Actions.length : Int) ≤ x1))) then
    ((-1), 8)
  else
  LET (action_declaration (ix x0.Actions x1)) fun y109 =>
  if (!decide (y109 = 0)) then
    ((-1), y109)
  else
  action_Check_L1 x0 x1 (fun (_ : Unit) =>
      (0, 0)) (Int.toNat ((((ix x0.Actions x1).Body).length : Int) - 0)) 0

/-- patchbay/bitvec.Fits -/
def bitvec_Fits (x0 : BitVec 32) (x1 : Int) : Bool :=
  LET (bitvec_valid ([x1] : List Int)) fun y102 =>
  (y102 && (decide (x0 ≤ (bitvec_Mask x1))))

def action_CheckCall_L1 (x0 : api_Program) (x1 : api_ActionCall) (K0 : Unit → Int) : Nat → Int → Int
  | 0, x35_ => K0 ()
  | m + 1, x35_ =>
    LET (bitvec_Fits (ix x1.Args x35_) ((ix ((ix x0.Actions x1.Action).Params) x35_).Width)) fun y113 =>
    if (!y113) then
      9
    else
    action_CheckCall_L1 x0 x1 K0 m (x35_ + 1)
/-- patchbay/action.CheckCall -/
def action_CheckCall (x0 : api_Program) (x1 : api_ActionCall) : Int :=
  if ((decide (x1.Action < 0)) || (decide ((x0.Actions.length : Int) ≤ x1.Action))) then
    8
  else
  if (!decide ((x1.Args.length : Int) = (((ix x0.Actions x1.Action).Params).length : Int))) then
    2
  else
  action_CheckCall_L1 x0 x1 (fun (_ : Unit) =>
      0) (Int.toNat ((x1.Args.length : Int) - 0)) 0

/-- patchbay/env.Get -/
def env_Get (x0 : api_Env) (x1 : api_FieldRef) : (BitVec 32) :=
  LET (env_element x0 x1) fun y101 =>
  if (!y101.2) then
    0#32
  else
  (ix y101.1 x1.Field)

/-- (*patchbay/expr.machine).load -/
def m2_expr_machine__load (x0 : expr_machine) (x1 : api_ExprNode) : expr_value × expr_machine :=
  LET (m1_expr_Scope__primary x0.scope x1) fun y104 =>
  if (decide (x1.Op = 1)) then
    LET (bitvec_Mask y104.1) fun y106 =>
    (({ v := ((BitVec.ofInt 32 x1.N) &&& y106), w := y104.1 } : expr_value), x0)
  else
  if (decide (x1.Op = 2)) then
    LET (env_Get x0.env ({ Header := x1.N, Field := x1.W } : api_FieldRef)) fun y111 =>
    LET (bitvec_Mask y104.1) fun y112 =>
    (({ v := (y111 &&& y112), w := y104.1 } : expr_value), x0)
  else
  if (decide (x1.Op = 3)) then
    if (decide (x1.N < (x0.args.length : Int))) then
      LET (bitvec_Mask y104.1) fun y119 =>
      (({ v := ((ix x0.args x1.N) &&& y119), w := y104.1 } : expr_value), x0)
    else
    LET (bitvec_Mask y104.1) fun y122 =>
    (({ v := (0#32 &&& y122), w := y104.1 } : expr_value), x0)
  else
  if (decide (x1.Op = 4)) then
    if ((decide (x1.N < (x0.env.Valid.length : Int))) && (ix x0.env.Valid x1.N)) then
      LET (bitvec_Mask y104.1) fun y132 =>
      (({ v := (1#32 &&& y132), w := y104.1 } : expr_value), x0)
    else
    LET (bitvec_Mask y104.1) fun y135 =>
    (({ v := (0#32 &&& y135), w := y104.1 } : expr_value), x0)
  else
  LET (bitvec_Mask y104.1) fun y138 =>
  (({ v := (0#32 &&& y138), w := y104.1 } : expr_value), x0)

/-- patchbay/bitvec.Not -/
def bitvec_Not (x0 : BitVec 32) (x1 : Int) : (BitVec 32) :=
  LET (bitvec_Mask x1) fun y101 =>
  ((~~~x0) &&& y101)

/-- patchbay/bitvec.Shl -/
def bitvec_Shl (x0 : BitVec 32) (x1 : Int) (x2 : Int) : (BitVec 32) :=
  LET (bitvec_Mask x2) fun y101 =>
  ((x0 <<< (max x1 0).toNat) &&& y101)

/-- patchbay/bitvec.Shr -/
def bitvec_Shr (x0 : BitVec 32) (x1 : Int) (x2 : Int) : (BitVec 32) :=
  LET (bitvec_Mask x2) fun y101 =>
  ((x0 &&& y101) >>> (max x1 0).toNat)

/-- patchbay/bitvec.Slice -/
def bitvec_Slice (x0 : BitVec 32) (x1 : Int) (x2 : Int) : (BitVec 32) :=
  LET (bitvec_valid ([x2] : List Int)) fun y102 =>
  if (((!y102) || (decide (x1 < 0))) || (decide ((wr (32 - x2)) < x1))) then
    0#32
  else
  LET (bitvec_Mask x2) fun y106 =>
  ((x0 >>> x1.toNat) &&& y106)

/-- patchbay/expr.unary -/
def expr_unary (x0 : api_ExprNode) (x1 : expr_value) : expr_value :=
  if (decide (x0.Op = 5)) then
    LET (bitvec_Not x1.v x1.w) fun y104 =>
    ({ v := y104, w := x1.w } : expr_value)
  else
  if (decide (x0.Op = 6)) then
    LET (bitvec_Shl x1.v x0.N x1.w) fun y107 =>
    ({ v := y107, w := x1.w } : expr_value)
  else
  if (decide (x0.Op = 7)) then
    LET (bitvec_Shr x1.v x0.N x1.w) fun y110 =>
    ({ v := y110, w := x1.w } : expr_value)
  else
  LET (bitvec_Slice x1.v x0.N x0.W) fun y112 =>
  ({ v := y112, w := x0.W } : expr_value)

/-- patchbay/bitvec.Add -/
def bitvec_Add (x0 : BitVec 32) (x1 : BitVec 32) (x2 : Int) : (BitVec 32) :=
  LET (bitvec_Mask x2) fun y101 =>
  ((x0 + x1) &&& y101)

/-- patchbay/bitvec.Sub -/
def bitvec_Sub (x0 : BitVec 32) (x1 : BitVec 32) (x2 : Int) : (BitVec 32) :=
  LET (bitvec_Mask x2) fun y101 =>
  ((x0 - x1) &&& y101)

/-- patchbay/bitvec.Concat -/
def bitvec_Concat (x0 : BitVec 32) (x1 : Int) (x2 : BitVec 32) (x3 : Int) : (BitVec 32) × Bool :=
  LET (bitvec_valid ([x1, x3] : List Int)) fun y102 =>
  if ((!y102) || (decide (32 < (wr (x1 + x3))))) then
    (0#32, false)
  else
  LET (bitvec_Mask x1) fun y105 =>
  LET (bitvec_Mask x3) fun y106 =>
  ((((x0 &&& y105) <<< x3.toNat) ||| (x2 &&& y106)), true)

/-- patchbay/expr.truth -/
def expr_truth (x0 : Bool) : expr_value :=
  if x0 then
    ({ v := 1#32, w := 1 } : expr_value)
  else
  ({ v := 0#32, w := 1 } : expr_value)

/-- patchbay/expr.binary -/
def expr_binary (x0 : Int) (x1 : expr_value) (x2 : expr_value) : expr_value :=
  if (decide (x0 = 9)) then
    LET (bitvec_Add x1.v x2.v x1.w) fun y104 =>
    ({ v := y104, w := x1.w } : expr_value)
  else
  if (decide (x0 = 10)) then
    LET (bitvec_Sub x1.v x2.v x1.w) fun y107 =>
    ({ v := y107, w := x1.w } : expr_value)
  else
  if (decide (x0 = 11)) then
    ({ v := (x1.v &&& x2.v), w := x1.w } : expr_value)
  else
  if (decide (x0 = 12)) then
    ({ v := (x1.v ||| x2.v), w := x1.w } : expr_value)
  else
  if (decide (x0 = 13)) then
    ({ v := (x1.v ^^^ x2.v), w := x1.w } : expr_value)
  else
  if (decide (x0 = 14)) then
    LET (bitvec_Concat x1.v x1.w x2.v x2.w) fun y116 =>
    ({ v := y116.1, w := (wr (x1.w + x2.w)) } : expr_value)
  else
  if (decide (x0 = 15)) then
    LET (expr_truth (decide (x1.v = x2.v))) fun y119 =>
    y119
  else
  LET (expr_truth (decide (x1.v < x2.v))) fun y122 =>
  y122

/-- (*patchbay/expr.machine).eval -/
def m2_expr_machine__eval_B (rec_ : expr_machine → (expr_value × expr_machine)) (x0 : expr_machine) : expr_value × expr_machine :=
  LET (expr_arity ((ix x0.nodes x0.next).Op)) fun y111 =>
  if (decide (y111 = 0)) then
    LET (m2_expr_machine__load ({ scope := x0.scope, env := x0.env, args := x0.args, nodes := x0.nodes, next := (wr (x0.next + 1)) } : expr_machine) (ix x0.nodes x0.next)) fun y113 =>
    (y113.1, y113.2)
  else
  if (decide (y111 = 1)) then
    LET (rec_ ({ scope := x0.scope, env := x0.env, args := x0.args, nodes := x0.nodes, next := (wr (x0.next + 1)) } : expr_machine)) fun y119 =>
    LET (expr_unary (ix x0.nodes x0.next) y119.1) fun y122 =>
    (y122, y119.2)
  else
  if (decide (y111 = 2)) then
    LET (rec_ ({ scope := x0.scope, env := x0.env, args := x0.args, nodes := x0.nodes, next := (wr (x0.next + 1)) } : expr_machine)) fun y127 =>
    LET (rec_ y127.2) fun y133 =>
    LET (expr_binary ((ix x0.nodes x0.next).Op) y127.1 y133.1) fun y139 =>
    (y139, y133.2)
  else
  LET (rec_ ({ scope := x0.scope, env := x0.env, args := x0.args, nodes := x0.nodes, next := (wr (x0.next + 1)) } : expr_machine)) fun y143 =>
  LET (rec_ y143.2) fun y149 =>
  LET (rec_ y149.2) fun y155 =>
  if (decide (y143.1.v = 1#32)) then
    (y149.1, y155.2)
  else
  (y155.1, y155.2)
def m2_expr_machine__eval_R : Nat → expr_machine → (expr_value × expr_machine)
  | 0, x0 => (default, { x0 with next := (m1_expr_Scope__check x0.scope x0.nodes x0.next).2.1 })
  | n_ + 1, x0 => m2_expr_machine__eval_B (m2_expr_machine__eval_R n_) x0
def m2_expr_machine__eval (x0 : expr_machine) : expr_value × expr_machine := m2_expr_machine__eval_R (x0.nodes.length - x0.next.toNat + 1) x0

/-- patchbay/expr.Eval -/
def expr_Eval (x0 : List api_ExprNode) (x1 : expr_Scope) (x2 : api_Env) (x3 : List (BitVec 32)) : (BitVec 32) :=
  LET (expr_Check x0 x1) fun y101 =>
  if (!decide (y101.2 = 0)) then
    0#32
  else
  LET (m2_expr_machine__eval ({ scope := x1, env := x2, args := x3, nodes := x0, next := 0 } : expr_machine)) fun y108 =>
  y108.1.v

/-- (*patchbay/action.state).eval -/
def m2_action_state__eval (x0 : action_state) (x1 : List api_ExprNode) : (BitVec 32) :=
  LET (expr_Eval x1 x0.scope x0.env x0.args) fun y104 =>
  y104

/-- (*patchbay/action.state).assign -/
def m2_action_state__assign (x0 : action_state) (x1 : api_Statement) : action_state :=
  LET (m2_action_state__eval x0 x1.Value) fun y106 =>
  LET (env_Set x0.scope.Program x0.env x1.Dst y106) fun y108 =>
  ({ scope := x0.scope, args := x0.args, env := y108, regs := x0.regs } : action_state)

/-- patchbay/env.in[patchbay/api.Header] -/
def env_in_api_Header (x0 : List api_Header) (x1 : Int) : Bool :=
  ((decide (0 ≤ x1)) && (decide (x1 < (x0.length : Int))))

/-- patchbay/env.in[bool] -/
def env_in_bool (x0 : List Bool) (x1 : Int) : Bool :=
  ((decide (0 ≤ x1)) && (decide (x1 < (x0.length : Int))))

def env_switched (x0 : api_Program) (x1 : api_Env) (x2 : Int) (x3 x4 : Bool) : api_Env :=
  if (!env_in_api_Header x0.Headers x2 || !env_in_bool x1.Valid x2) || (x4 && decide (ix x1.Valid x2 = x3)) then x1 else swE x1 x2 x3

/-- patchbay/env.AddHeader -/
def env_AddHeader (x0 : api_Program) (x1 : api_Env) (x2 : Int) : api_Env :=
  LET (env_switched x0 x1 x2 true true) fun y103 =>
  y103

/-- (*patchbay/action.state).addHeader -/
def m2_action_state__addHeader (x0 : action_state) (x1 : api_Statement) : action_state :=
  LET (env_AddHeader x0.scope.Program x0.env x1.Header) fun y104 =>
  ({ scope := x0.scope, args := x0.args, env := y104, regs := x0.regs } : action_state)

/-- patchbay/env.RemoveHeader -/
def env_RemoveHeader (x0 : api_Program) (x1 : api_Env) (x2 : Int) : api_Env :=
  LET (env_switched x0 x1 x2 false false) fun y103 =>
  y103

/-- (*patchbay/action.state).removeHeader -/
def m2_action_state__removeHeader (x0 : action_state) (x1 : api_Statement) : action_state :=
  LET (env_RemoveHeader x0.scope.Program x0.env x1.Header) fun y104 =>
  ({ scope := x0.scope, args := x0.args, env := y104, regs := x0.regs } : action_state)

/-- (patchbay/register.file).has -/
def m1_register_file__has (x0 : register_file) (x1 : Int) (x2 : BitVec 32) : Bool :=
  if (((decide (x1 < 0)) || (decide ((x0.p.Registers.length : Int) ≤ x1))) || (decide ((x0.cells.length : Int) ≤ x1))) then
    false
  else
  ((decide ((x2.toNat : Int) < ((ix x0.p.Registers x1).Size))) && (decide ((x2.toNat : Int) < ((ix x0.cells x1).length : Int))))

/-- patchbay/register.Read -/
def register_Read (x0 : api_Program) (x1 : List (List (BitVec 32))) (x2 : Int) (x3 : BitVec 32) : (BitVec 32) :=
  LET (m1_register_file__has ({ p := x0, cells := x1 } : register_file) x2 x3) fun y102 =>
  if (!y102) then
    0#32
  else
  (ix (ix x1 x2) (x3.toNat : Int))

/-- (*patchbay/action.state).read -/
def m2_action_state__read (x0 : action_state) (x1 : api_Statement) : action_state :=
  LET (m2_action_state__eval x0 x1.Index) fun y105 =>
  LET (register_Read x0.scope.Program x0.regs x1.Register y105) fun y107 =>
  LET (env_Set x0.scope.Program x0.env x1.Dst y107) fun y112 =>
  ({ scope := x0.scope, args := x0.args, env := y112, regs := x0.regs } : action_state)

def register_Write (x0 : api_Program) (x1 : List (List (BitVec 32))) (x2 : Int) (x3 x4 : BitVec 32) : List (List (BitVec 32)) :=
  if m1_register_file__has { p := x0, cells := x1 } x2 x3 && decide (0#32 < bitvec_Mask (ix x0.Registers x2).Width) then x1.set x2.toNat ((ix x1 x2).set x3.toNat (x4 &&& bitvec_Mask (ix x0.Registers x2).Width)) else x1

/-- (*patchbay/action.state).write -/
def m2_action_state__write (x0 : action_state) (x1 : api_Statement) : action_state :=
  LET (m2_action_state__eval x0 x1.Index) fun y105 =>
  LET (m2_action_state__eval x0 x1.Value) fun y108 =>
  LET (register_Write x0.scope.Program x0.regs x1.Register y105 y108) fun y110 =>
  ({ scope := x0.scope, args := x0.args, env := x0.env, regs := y110 } : action_state)

def action_Execute_L1 (x0 : api_Program) (x1 : api_ActionCall) (K0 : action_state → (api_Env × (List (List (BitVec 32))))) : Nat → Int → action_state → (api_Env × (List (List (BitVec 32))))
  | 0, x67_, zE109 => K0 zE109
  | m + 1, x67_, zE109 =>
    if (decide (((ix ((ix x0.Actions x1.Action).Body) x67_).Kind) = 2)) then
      LET (m2_action_state__addHeader zE109 (ix ((ix x0.Actions x1.Action).Body) x67_)) fun y135 =>
      action_Execute_L1 x0 x1 K0 m (x67_ + 1) y135
    else
    if (decide (((ix ((ix x0.Actions x1.Action).Body) x67_).Kind) = 3)) then
      LET (m2_action_state__removeHeader zE109 (ix ((ix x0.Actions x1.Action).Body) x67_)) fun y138 =>
      action_Execute_L1 x0 x1 K0 m (x67_ + 1) y138
    else
    if (decide (((ix ((ix x0.Actions x1.Action).Body) x67_).Kind) = 4)) then
      LET (m2_action_state__read zE109 (ix ((ix x0.Actions x1.Action).Body) x67_)) fun y141 =>
      action_Execute_L1 x0 x1 K0 m (x67_ + 1) y141
    else
    if (decide (((ix ((ix x0.Actions x1.Action).Body) x67_).Kind) = 5)) then
      LET (m2_action_state__write zE109 (ix ((ix x0.Actions x1.Action).Body) x67_)) fun y144 =>
      action_Execute_L1 x0 x1 K0 m (x67_ + 1) y144
    else
    LET (m2_action_state__assign zE109 (ix ((ix x0.Actions x1.Action).Body) x67_)) fun y146 =>
    action_Execute_L1 x0 x1 K0 m (x67_ + 1) y146
/-- patchbay/action.Execute -/
def action_Execute (x0 : api_Program) (x1 : api_ActionCall) (x2 : api_Env) (x3 : List (List (BitVec 32))) : api_Env × (List (List (BitVec 32))) :=
  LET (env_Clone x2) fun y103 =>
  LET (action_duplicate x3) fun y105 =>
  LET (action_Check x0 x1.Action) fun y110 =>
  if ((!decide (y110.2 = 0)) || (!decide ((action_CheckCall x0 x1) = 0))) then
    (y103, y105)
  else
  action_Execute_L1 x0 x1 (fun (zE109_148 : action_state) =>
      (zE109_148.env, zE109_148.regs)) (Int.toNat ((((ix x0.Actions x1.Action).Body).length : Int) - 0)) 0 ({ scope := ({ Program := x0, Params := (ix x0.Actions x1.Action).Params } : expr_Scope), args := x1.Args, env := y103, regs := y105 } : action_state)

/-- patchbay/patchbaylaw16.ActionKeeps -/
def law16_ActionKeeps (x0 : law16_Case) : Bool :=
  LET (law16_Small x0.P) fun y104 =>
  if (((!y104) || (decide (40 < (x0.Call.Args.length : Int)))) || (!(law16_right x0))) then
    LET (law16_awake) fun y111 =>
    y111
  else
  LET (action_Execute x0.P x0.Call x0.E x0.Regs) fun y116 =>
  LET (law16_right ({ P := x0.P, Call := x0.Call, E := y116.1, Regs := y116.2 } : law16_Case)) fun y123 =>
  (y123 && (law16_awake))

end Go.Proofs.YtmonnlkagniolaaGreat
