/-
  Each function of this seat as a plain program.
-/
import Derived.Test.YtklfdkbemkommaaKTy
set_option linter.unusedVariables false
set_option linter.unusedSimpArgs false
set_option maxRecDepth 100000
namespace Go.Proofs.Ytklfdkbemkommaa
open Go Go.Pb Go.RowKit
def law17_fields_L1 (x0 : List api_Field) (K0 : Unit → Bool) : Nat → Int → Bool
  | 0, x3_ => K0 ()
  | m + 1, x3_ =>
    if (decide (40 < (((ix x0 x3_).Name).length : Int))) then
      false
    else
    law17_fields_L1 x0 K0 m (x3_ + 1)
/-- patchbay/patchbaylaw17.fields -/
def law17_fields (x0 : List api_Field) : Bool :=
  if (decide (16 < (x0.length : Int))) then
    false
  else
  law17_fields_L1 x0 (fun (_ : Unit) =>
      true) (Int.toNat ((x0.length : Int) - 0)) 0

def law17_body_L1 (x0 : api_Action) (K0 : Unit → Bool) : Nat → Int → Bool
  | 0, x3_ => K0 ()
  | m + 1, x3_ =>
    if ((decide (40 < (((ix x0.Body x3_).Index).length : Int))) || (decide (40 < (((ix x0.Body x3_).Value).length : Int)))) then
      false
    else
    law17_body_L1 x0 K0 m (x3_ + 1)
/-- patchbay/patchbaylaw17.body -/
def law17_body (x0 : api_Action) : Bool :=
  if (((decide (40 < (x0.Name.length : Int))) || (!(law17_fields x0.Params))) || (decide (16 < (x0.Body.length : Int)))) then
    false
  else
  law17_body_L1 x0 (fun (_ : Unit) =>
      true) (Int.toNat ((x0.Body.length : Int) - 0)) 0

def law17_Small_L1 (x0 : api_Program) (K0 : Unit → Bool) : Nat → Int → Bool
  | 0, x3_ => K0 ()
  | m + 1, x3_ =>
    if ((decide (40 < (((ix x0.Headers x3_).Name).length : Int))) || (!(law17_fields ((ix x0.Headers x3_).Fields)))) then
      false
    else
    law17_Small_L1 x0 K0 m (x3_ + 1)
def law17_Small_L2 (x0 : api_Program) (K2 : Unit → Bool) : Nat → Int → Bool
  | 0, x4_ => K2 ()
  | m + 1, x4_ =>
    if (decide (40 < (((ix x0.Registers x4_).Name).length : Int))) then
      false
    else
    law17_Small_L2 x0 K2 m (x4_ + 1)
def law17_Small_L3 (x0 : api_Program) (K4 : Unit → Bool) : Nat → Int → Bool
  | 0, x5_ => K4 ()
  | m + 1, x5_ =>
    LET (law17_body (ix x0.Actions x5_)) fun y144 =>
    if (!y144) then
      false
    else
    law17_Small_L3 x0 K4 m (x5_ + 1)
def law17_Small_L4 (x0 : api_Program) (K6 : Unit → Bool) : Nat → Int → Bool
  | 0, x6_ => K6 ()
  | m + 1, x6_ =>
    if ((((decide (40 < (((ix x0.Tables x6_).Name).length : Int))) || (decide (10 < (((ix x0.Tables x6_).Keys).length : Int)))) || (decide (24 < (((ix x0.Tables x6_).Actions).length : Int)))) || (decide (10 < ((((ix x0.Tables x6_).Default).Args).length : Int)))) then
      false
    else
    law17_Small_L4 x0 K6 m (x6_ + 1)
def law17_Small_L5 (x0 : api_Program) (K8 : Unit → Bool) : Nat → Int → Bool
  | 0, x8_ => K8 ()
  | m + 1, x8_ =>
    if (((decide (40 < (((ix x0.States x8_).Name).length : Int))) || (decide (8 < (((ix x0.States x8_).Extract).length : Int)))) || (decide (16 < (((ix x0.States x8_).Cases).length : Int)))) then
      false
    else
    law17_Small_L5 x0 K8 m (x8_ + 1)
/-- patchbay/patchbaylaw17.Small -/
def law17_Small (x0 : api_Program) : Bool :=
  if ((((((((decide (40 < (x0.Name.length : Int))) || (decide (12 < (x0.Headers.length : Int)))) || (!(law17_fields x0.Metadata))) || (decide (8 < (x0.Registers.length : Int)))) || (decide (20 < (x0.Actions.length : Int)))) || (decide (16 < (x0.Tables.length : Int)))) || (decide (16 < (x0.States.length : Int)))) || (decide (16 < (x0.Deparser.length : Int)))) then
    false
  else
  law17_Small_L1 x0 (fun (_ : Unit) =>
      law17_Small_L2 x0 (fun (_ : Unit) =>
          law17_Small_L3 x0 (fun (_ : Unit) =>
              law17_Small_L4 x0 (fun (_ : Unit) =>
                  law17_Small_L5 x0 (fun (_ : Unit) =>
                      true) (Int.toNat ((x0.States.length : Int) - 0)) 0) (Int.toNat ((x0.Tables.length : Int) - 0)) 0) (Int.toNat ((x0.Actions.length : Int) - 0)) 0) (Int.toNat ((x0.Registers.length : Int) - 0)) 0) (Int.toNat ((x0.Headers.length : Int) - 0)) 0

/-- patchbay/lexer.isLetter -/
def lexer_isLetter (x0 : UInt8) : Bool :=
  (((decide ((97 : UInt8) ≤ x0)) && (decide (x0 ≤ (122 : UInt8)))) || ((decide ((65 : UInt8) ≤ x0)) && (decide (x0 ≤ (90 : UInt8)))))

def lexer_extent_L1 (x0 : List UInt8) (x1 : UInt8 → Bool) (K0 : Int → Int) : Nat → Int → Int
  | 0, x5_ => K0 x5_
  | m + 1, x5_ =>
    if ((decide (x5_ < (x0.length : Int))) && (x1 (ix x0 x5_))) then
      lexer_extent_L1 x0 x1 K0 m (x5_ + 1)
    else
    K0 x5_
/-- patchbay/lexer.extent -/
def lexer_extent (x0 : List UInt8) (x1 : UInt8 → Bool) : Int :=
  lexer_extent_L1 x0 x1 (fun (x5_107 : Int) =>
      x5_107) (Int.toNat ((x0.length : Int) - 0)) 0

/-- patchbay/lexer.isDigit -/
def lexer_isDigit (x0 : UInt8) : Bool :=
  ((decide ((48 : UInt8) ≤ x0)) && (decide (x0 ≤ (57 : UInt8))))

/-- patchbay/lexer.IsIdentifier$1 -/
def lexer_IsIdentifier_1 (x0 : UInt8) : Bool :=
  LET (lexer_isLetter x0) fun y101 =>
  ((y101 || (lexer_isDigit x0)) || (decide (x0 = (95 : UInt8))))

/-- patchbay/lexer.IsIdentifier -/
def lexer_IsIdentifier (x0 : List UInt8) : Bool :=
  if (((decide ((x0.length : Int) = 0)) || (decide (16 < (x0.length : Int)))) || (!(lexer_isLetter (ix x0 0)))) then
    false
  else
  LET (lexer_extent x0 lexer_IsIdentifier_1) fun y105 =>
  (decide (y105 = (x0.length : Int)))

/-- patchbay/env.at[patchbay/api.Header] -/
def env_at_api_Header (x0 : List api_Header) (x1 : Int) : api_Header :=
  if ((decide (x1 < 0)) || (decide ((x0.length : Int) ≤ x1))) then
    ({ Name := ([] : List UInt8), Fields := ([] : List api_Field) } : api_Header)
  else
  (ix x0 x1)

/-- patchbay/env.fields -/
def env_fields (x0 : api_Program) (x1 : Int) : (List api_Field) :=
  if (decide (x1 = (-1))) then
    x0.Metadata
  else
  LET (env_at_api_Header x0.Headers x1) fun y104 =>
  y104.Fields

/-- patchbay/env.at[patchbay/api.Field] -/
def env_at_api_Field (x0 : List api_Field) (x1 : Int) : api_Field :=
  if ((decide (x1 < 0)) || (decide ((x0.length : Int) ≤ x1))) then
    ({ Name := ([] : List UInt8), Width := 0 } : api_Field)
  else
  (ix x0 x1)

def bitvec_valid_L1 (x0 : List Int) (K0 : Unit → Bool) : Nat → Int → Bool
  | 0, x7_ => K0 ()
  | m + 1, x7_ =>
    if ((decide ((ix x0 x7_) < 1)) || (decide (32 < (ix x0 x7_)))) then
      false
    else
    bitvec_valid_L1 x0 K0 m (x7_ + 1)
/-- patchbay/bitvec.valid -/
def bitvec_valid (x0 : List Int) : Bool :=
  bitvec_valid_L1 x0 (fun (_ : Unit) =>
      true) (Int.toNat ((x0.length : Int) - 0)) 0

/-- patchbay/bitvec.Mask -/
def bitvec_Mask (x0 : Int) : (BitVec 32) :=
  LET (bitvec_valid ([x0] : List Int)) fun y102 =>
  if (!y102) then
    0#32
  else
  (4294967295#32 >>> (wr (32 - x0)).toNat)

/-- patchbay/env.Width -/
def env_Width (x0 : api_Program) (x1 : api_FieldRef) : Int :=
  LET (env_fields x0 x1.Header) fun y101 =>
  LET (env_at_api_Field y101 x1.Field) fun y103 =>
  LET (bitvec_Mask y103.Width) fun y105 =>
  if (decide (y105 = 0#32)) then
    0
  else
  y103.Width

def table_checkKeys_L1 (x0 : api_Program) (x1 : api_Table) (K0 : Int → Int → (Int × Int)) : Nat → Int → Int → Int → (Int × Int)
  | 0, x6_, x7_, x14_ => K0 x6_ x7_
  | m + 1, x6_, x7_, x14_ =>
    LET (env_Width x0 ((ix x1.Keys x14_).Field)) fun y109 =>
    if (decide (y109 = 0)) then
      (x14_, 8)
    else
    if (decide (((ix x1.Keys x14_).Kind) = 2)) then
      table_checkKeys_L1 x0 x1 K0 m (wr (x6_ + 1)) (wr (x7_ + y109)) (x14_ + 1)
    else
    LET (fun (x33_113 : Bool) =>
      if x33_113 then
        table_checkKeys_L1 x0 x1 K0 m x6_ (wr (x7_ + y109)) (x14_ + 1)
      else
      (x14_, 11)) fun k113 =>
    if (decide (((ix x1.Keys x14_).Kind) = 1)) then
      k113 (decide (((ix x1.Keys x14_).Kind) = 1))
    else
    k113 (decide (((ix x1.Keys x14_).Kind) = 3))
/-- patchbay/table.checkKeys -/
def table_checkKeys (x0 : api_Program) (x1 : api_Table) : Int × Int :=
  table_checkKeys_L1 x0 x1 (fun (x6_116 : Int) (x7_116 : Int) =>
      if (decide (1 < x6_116)) then
        ((-2), 7)
      else
      if (decide (64 < x7_116)) then
        ((-2), 10)
      else
      (0, 0)) (Int.toNat ((x1.Keys.length : Int) - 0)) 0 0 0

/-- patchbay/bitvec.Fits -/
def bitvec_Fits (x0 : BitVec 32) (x1 : Int) : Bool :=
  LET (bitvec_valid ([x1] : List Int)) fun y102 =>
  (y102 && (decide (x0 ≤ (bitvec_Mask x1))))

def action_CheckCall_L1 (x0 : api_Program) (x1 : api_ActionCall) (K0 : Unit → Int) : Nat → Int → Int
  | 0, x35_ => K0 ()
  | m + 1, x35_ =>
    LET (bitvec_Fits (ix x1.Args x35_) ((ix ((ix x0.Actions x1.Action).Params) x35_).Width)) fun y113 =>
    if (!y113) then
      9
    else
    action_CheckCall_L1 x0 x1 K0 m (x35_ + 1)
/-- patchbay/action.CheckCall -/
def action_CheckCall (x0 : api_Program) (x1 : api_ActionCall) : Int :=
  if ((decide (x1.Action < 0)) || (decide ((x0.Actions.length : Int) ≤ x1.Action))) then
    8
  else
  if (!decide ((x1.Args.length : Int) = (((ix x0.Actions x1.Action).Params).length : Int))) then
    2
  else
  action_CheckCall_L1 x0 x1 (fun (_ : Unit) =>
      0) (Int.toNat ((x1.Args.length : Int) - 0)) 0

def table_checkActions_L1 (x0 : api_Program) (x1 : api_Table) (K0 : (List (Int × Bool)) → Int) : Nat → Int → (List (Int × Bool)) → Int
  | 0, x12_, zE102 => K0 zE102
  | m + 1, x12_, zE102 =>
    if ((decide ((ix x1.Actions x12_) < 0)) || (decide ((x0.Actions.length : Int) ≤ (ix x1.Actions x12_)))) then
      8
    else
    if ((mget zE102 (ix x1.Actions x12_)).getD false) then
      7
    else
    table_checkActions_L1 x0 x1 K0 m (x12_ + 1) (mput zE102 (ix x1.Actions x12_) true)
/-- patchbay/table.checkActions -/
def table_checkActions (x0 : api_Program) (x1 : api_Table) : Int :=
  table_checkActions_L1 x0 x1 (fun (zE102_112 : List (Int × Bool)) =>
      if (!((mget zE102_112 x1.Default.Action).getD false)) then
        8
      else
      LET (action_CheckCall x0 x1.Default) fun y117 =>
      y117) (Int.toNat ((x1.Actions.length : Int) - 0)) 0 ([] : List (Int × Bool))

/-- patchbay/table.Check -/
def table_Check (x0 : api_Program) (x1 : Int) : Int × Int :=
  if ((decide (x1 < 0)) || (decide ((x0.Tables.length : Int) ≤ x1))) then
    ((-1), 8)
  else
  LET (lexer_IsIdentifier ((ix x0.Tables x1).Name)) fun y109 =>
  if (!y109) then
    ((-1), 6)
  else
  if ((decide (6 < (((ix x0.Tables x1).Keys).length : Int))) || (decide (16 < (((ix x0.Tables x1).Actions).length : Int)))) then
    ((-1), 12)
  else
  if ((decide (((ix x0.Tables x1).Size) < 1)) || (decide (256 < ((ix x0.Tables x1).Size)))) then
    ((-1), 9)
  else
  LET (table_checkKeys x0 (ix x0.Tables x1)) fun y117 =>
  if (!decide (y117.2 = 0)) then
    (y117.1, y117.2)
  else
  LET (table_checkActions x0 (ix x0.Tables x1)) fun y119 =>
  if (!decide (y119 = 0)) then
    ((-3), y119)
  else
  (0, 0)

/-- patchbay/table.valid -/
def table_valid (x0 : api_Program) (x1 : Int) : Bool :=
  LET (table_Check x0 x1) fun y101 =>
  (decide (y101.2 = 0))

def table_Kind_L1 (x0 : api_Program) (x1 : Int) (K0 : Int → Int) : Nat → Int → Int → Int
  | 0, x5_, x19_ => K0 x5_
  | m + 1, x5_, x19_ =>
    if (decide (((ix ((ix x0.Tables x1).Keys) x19_).Kind) = 3)) then
      3
    else
    if (decide (((ix ((ix x0.Tables x1).Keys) x19_).Kind) = 2)) then
      table_Kind_L1 x0 x1 K0 m 2 (x19_ + 1)
    else
    table_Kind_L1 x0 x1 K0 m x5_ (x19_ + 1)
/-- patchbay/table.Kind -/
def table_Kind (x0 : api_Program) (x1 : Int) : Int :=
  LET (table_valid x0 x1) fun y101 =>
  if (!y101) then
    0
  else
  table_Kind_L1 x0 x1 (fun (x5_114 : Int) =>
      x5_114) (Int.toNat ((((ix x0.Tables x1).Keys).length : Int) - 0)) 1 0

def table_Widths_L1 (x0 : api_Program) (x1 : Int) (K0 : (List Int) → (List Int)) : Nat → Int → (List Int) → (List Int)
  | 0, x19_, zE107 => K0 zE107
  | m + 1, x19_, zE107 =>
    LET (env_Width x0 ((ix ((ix x0.Tables x1).Keys) x19_).Field)) fun y115 =>
    table_Widths_L1 x0 x1 K0 m (x19_ + 1) (zE107 ++ ([y115] : List Int))
/-- patchbay/table.Widths -/
def table_Widths (x0 : api_Program) (x1 : Int) : (List Int) :=
  LET (table_valid x0 x1) fun y101 =>
  if (!y101) then
    ([] : List Int)
  else
  table_Widths_L1 x0 x1 (fun (zE107_118 : List Int) =>
      zE107_118) (Int.toNat ((((ix x0.Tables x1).Keys).length : Int) - 0)) 0 ([] : List Int)

def table_Bits_L1 (y101 : (List Int)) (K0 : Int → Int) : Nat → Int → Int → Int
  | 0, x5_, x12_ => K0 x5_
  | m + 1, x5_, x12_ =>
    table_Bits_L1 y101 K0 m (wr (x5_ + (ix y101 x12_))) (x12_ + 1)
/-- patchbay/table.Bits -/
def table_Bits (x0 : api_Program) (x1 : Int) : Int :=
  LET (table_Widths x0 x1) fun y101 =>
  table_Bits_L1 y101 (fun (x5_105 : Int) =>
      x5_105) (Int.toNat ((y101.length : Int) - 0)) 0 0

/-- patchbay/env.in[uint32] -/
def env_in_uint32 (x0 : List (BitVec 32)) (x1 : Int) : Bool :=
  ((decide (0 ≤ x1)) && (decide (x1 < (x0.length : Int))))

/-- patchbay/env.at[[]uint32] -/
def env_at__uint32_ (x0 : List (List (BitVec 32))) (x1 : Int) : (List (BitVec 32)) :=
  if ((decide (x1 < 0)) || (decide ((x0.length : Int) ≤ x1))) then
    ([] : List (BitVec 32))
  else
  (ix x0 x1)

/-- patchbay/env.at[bool] -/
def env_at_bool (x0 : List Bool) (x1 : Int) : Bool :=
  if ((decide (x1 < 0)) || (decide ((x0.length : Int) ≤ x1))) then
    false
  else
  (ix x0 x1)

/-- patchbay/env.element -/
def env_element (x0 : api_Env) (x1 : api_FieldRef) : (List (BitVec 32)) × Bool :=
  if (decide (x1 = ({ Header := (-1), Field := x1.Field } : api_FieldRef))) then
    LET (env_in_uint32 x0.Metd x1.Field) fun y104 =>
    (x0.Metd, y104)
  else
  LET (env_at__uint32_ x0.Fields x1.Header) fun y106 =>
  LET (env_at_bool x0.Valid x1.Header) fun y109 =>
  (y106, (y109 && (env_in_uint32 y106 x1.Field)))

/-- patchbay/env.Get -/
def env_Get (x0 : api_Env) (x1 : api_FieldRef) : (BitVec 32) :=
  LET (env_element x0 x1) fun y101 =>
  if (!y101.2) then
    0#32
  else
  (ix y101.1 x1.Field)

def table_Key_L1 (x0 : api_Program) (x1 : Int) (x2 : api_Env) (y101 : (List Int)) (K0 : (List (BitVec 32)) → (List (BitVec 32))) : Nat → Int → (List (BitVec 32)) → (List (BitVec 32))
  | 0, x14_, zE104 => K0 zE104
  | m + 1, x14_, zE104 =>
    LET (env_Get x2 ((ix ((ix x0.Tables x1).Keys) x14_).Field)) fun y112 =>
    LET (bitvec_Mask (ix y101 x14_)) fun y113 =>
    table_Key_L1 x0 x1 x2 y101 K0 m (x14_ + 1) (zE104 ++ ([(y112 &&& y113)] : List (BitVec 32)))
/-- patchbay/table.Key -/
def table_Key (x0 : api_Program) (x1 : Int) (x2 : api_Env) : (List (BitVec 32)) :=
  LET (table_Widths x0 x1) fun y101 =>
  table_Key_L1 x0 x1 x2 y101 (fun (zE104_116 : List (BitVec 32)) =>
      zE104_116) (Int.toNat ((y101.length : Int) - 0)) 0 ([] : List (BitVec 32))

def ref02_EqualUint32s_L1 (x0 : List (BitVec 32)) (x1 : List (BitVec 32)) (K0 : Unit → Bool) : Nat → Int → Bool
  | 0, x5_ => K0 ()
  | m + 1, x5_ =>
    if (!decide ((ix x0 x5_) = (ix x1 x5_))) then
      false
    else
    ref02_EqualUint32s_L1 x0 x1 K0 m (x5_ + 1)
/-- patchbay/patchbayref02.EqualUint32s -/
def ref02_EqualUint32s (x0 : List (BitVec 32)) (x1 : List (BitVec 32)) : Bool :=
  if (!decide ((x0.length : Int) = (x1.length : Int))) then
    false
  else
  ref02_EqualUint32s_L1 x0 x1 (fun (_ : Unit) =>
      true) (Int.toNat ((x0.length : Int) - 0)) 0

def table_Allows_L1 (x0 : api_Program) (x1 : Int) (x2 : Int) (K0 : Unit → Bool) : Nat → Int → Bool
  | 0, x20_ => K0 ()
  | m + 1, x20_ =>
    if (decide ((ix ((ix x0.Tables x1).Actions) x20_) = x2)) then
      true
    else
    table_Allows_L1 x0 x1 x2 K0 m (x20_ + 1)
/-- patchbay/table.Allows -/
def table_Allows (x0 : api_Program) (x1 : Int) (x2 : Int) : Bool :=
  LET (table_valid x0 x1) fun y101 =>
  if (!y101) then
    false
  else
  table_Allows_L1 x0 x1 x2 (fun (_ : Unit) =>
      false) (Int.toNat ((((ix x0.Tables x1).Actions).length : Int) - 0)) 0

/-- patchbay/patchbaylaw17.works -/
def law17_works : Bool :=
  LET (table_Check ({ Name := ([] : List UInt8), Headers := ([] : List api_Header), Metadata := ([({ Name := ([105, 110] : List UInt8), Width := 8 } : api_Field), ({ Name := ([109] : List UInt8), Width := 4 } : api_Field)] : List api_Field), Registers := ([] : List api_Register), Actions := ([({ Name := ([110, 111, 112] : List UInt8), Params := ([] : List api_Field), Body := ([] : List api_Statement) } : api_Action)] : List api_Action), Tables := ([({ Name := ([116] : List UInt8), Keys := ([({ Field := ({ Header := (-1), Field := 0 } : api_FieldRef), Kind := 1 } : api_TableKey), ({ Field := ({ Header := (-1), Field := 1 } : api_FieldRef), Kind := 3 } : api_TableKey)] : List api_TableKey), Actions := ([0] : List Int), Default := ({ Action := 0, Args := ([] : List (BitVec 32)) } : api_ActionCall), Size := 4 } : api_Table), ({ Name := ([117] : List UInt8), Keys := ([] : List api_TableKey), Actions := ([0] : List Int), Default := ({ Action := 0, Args := ([] : List (BitVec 32)) } : api_ActionCall), Size := 1 } : api_Table)] : List api_Table), States := ([] : List api_ParserState), Control := ([] : List api_ControlNode), Deparser := ([] : List Int) } : api_Program) 0) fun y110 =>
  LET (table_Check ({ Name := ([] : List UInt8), Headers := ([] : List api_Header), Metadata := ([({ Name := ([105, 110] : List UInt8), Width := 8 } : api_Field), ({ Name := ([109] : List UInt8), Width := 4 } : api_Field)] : List api_Field), Registers := ([] : List api_Register), Actions := ([({ Name := ([110, 111, 112] : List UInt8), Params := ([] : List api_Field), Body := ([] : List api_Statement) } : api_Action)] : List api_Action), Tables := ([({ Name := ([116] : List UInt8), Keys := ([({ Field := ({ Header := (-1), Field := 0 } : api_FieldRef), Kind := 1 } : api_TableKey), ({ Field := ({ Header := (-1), Field := 1 } : api_FieldRef), Kind := 3 } : api_TableKey)] : List api_TableKey), Actions := ([0] : List Int), Default := ({ Action := 0, Args := ([] : List (BitVec 32)) } : api_ActionCall), Size := 4 } : api_Table), ({ Name := ([117] : List UInt8), Keys := ([] : List api_TableKey), Actions := ([0] : List Int), Default := ({ Action := 0, Args := ([] : List (BitVec 32)) } : api_ActionCall), Size := 1 } : api_Table)] : List api_Table), States := ([] : List api_ParserState), Control := ([] : List api_ControlNode), Deparser := ([] : List Int) } : api_Program) 2) fun y111 =>
  ((((((((((decide (y110.1 = 0)) && (decide (y110.2 = 0))) && (decide (y111.2 = 8))) && (decide ((table_Kind ({ Name := ([] : List UInt8), Headers := ([] : List api_Header), Metadata := ([({ Name := ([105, 110] : List UInt8), Width := 8 } : api_Field), ({ Name := ([109] : List UInt8), Width := 4 } : api_Field)] : List api_Field), Registers := ([] : List api_Register), Actions := ([({ Name := ([110, 111, 112] : List UInt8), Params := ([] : List api_Field), Body := ([] : List api_Statement) } : api_Action)] : List api_Action), Tables := ([({ Name := ([116] : List UInt8), Keys := ([({ Field := ({ Header := (-1), Field := 0 } : api_FieldRef), Kind := 1 } : api_TableKey), ({ Field := ({ Header := (-1), Field := 1 } : api_FieldRef), Kind := 3 } : api_TableKey)] : List api_TableKey), Actions := ([0] : List Int), Default := ({ Action := 0, Args := ([] : List (BitVec 32)) } : api_ActionCall), Size := 4 } : api_Table), ({ Name := ([117] : List UInt8), Keys := ([] : List api_TableKey), Actions := ([0] : List Int), Default := ({ Action := 0, Args := ([] : List (BitVec 32)) } : api_ActionCall), Size := 1 } : api_Table)] : List api_Table), States := ([] : List api_ParserState), Control := ([] : List api_ControlNode), Deparser := ([] : List Int) } : api_Program) 0) = 3))) && (decide ((table_Bits ({ Name := ([] : List UInt8), Headers := ([] : List api_Header), Metadata := ([({ Name := ([105, 110] : List UInt8), Width := 8 } : api_Field), ({ Name := ([109] : List UInt8), Width := 4 } : api_Field)] : List api_Field), Registers := ([] : List api_Register), Actions := ([({ Name := ([110, 111, 112] : List UInt8), Params := ([] : List api_Field), Body := ([] : List api_Statement) } : api_Action)] : List api_Action), Tables := ([({ Name := ([116] : List UInt8), Keys := ([({ Field := ({ Header := (-1), Field := 0 } : api_FieldRef), Kind := 1 } : api_TableKey), ({ Field := ({ Header := (-1), Field := 1 } : api_FieldRef), Kind := 3 } : api_TableKey)] : List api_TableKey), Actions := ([0] : List Int), Default := ({ Action := 0, Args := ([] : List (BitVec 32)) } : api_ActionCall), Size := 4 } : api_Table), ({ Name := ([117] : List UInt8), Keys := ([] : List api_TableKey), Actions := ([0] : List Int), Default := ({ Action := 0, Args := ([] : List (BitVec 32)) } : api_ActionCall), Size := 1 } : api_Table)] : List api_Table), States := ([] : List api_ParserState), Control := ([] : List api_ControlNode), Deparser := ([] : List Int) } : api_Program) 0) = 12))) && (decide ((table_Kind ({ Name := ([] : List UInt8), Headers := ([] : List api_Header), Metadata := ([({ Name := ([105, 110] : List UInt8), Width := 8 } : api_Field), ({ Name := ([109] : List UInt8), Width := 4 } : api_Field)] : List api_Field), Registers := ([] : List api_Register), Actions := ([({ Name := ([110, 111, 112] : List UInt8), Params := ([] : List api_Field), Body := ([] : List api_Statement) } : api_Action)] : List api_Action), Tables := ([({ Name := ([116] : List UInt8), Keys := ([({ Field := ({ Header := (-1), Field := 0 } : api_FieldRef), Kind := 1 } : api_TableKey), ({ Field := ({ Header := (-1), Field := 1 } : api_FieldRef), Kind := 3 } : api_TableKey)] : List api_TableKey), Actions := ([0] : List Int), Default := ({ Action := 0, Args := ([] : List (BitVec 32)) } : api_ActionCall), Size := 4 } : api_Table), ({ Name := ([117] : List UInt8), Keys := ([] : List api_TableKey), Actions := ([0] : List Int), Default := ({ Action := 0, Args := ([] : List (BitVec 32)) } : api_ActionCall), Size := 1 } : api_Table)] : List api_Table), States := ([] : List api_ParserState), Control := ([] : List api_ControlNode), Deparser := ([] : List Int) } : api_Program) 1) = 1))) && (decide ((table_Bits ({ Name := ([] : List UInt8), Headers := ([] : List api_Header), Metadata := ([({ Name := ([105, 110] : List UInt8), Width := 8 } : api_Field), ({ Name := ([109] : List UInt8), Width := 4 } : api_Field)] : List api_Field), Registers := ([] : List api_Register), Actions := ([({ Name := ([110, 111, 112] : List UInt8), Params := ([] : List api_Field), Body := ([] : List api_Statement) } : api_Action)] : List api_Action), Tables := ([({ Name := ([116] : List UInt8), Keys := ([({ Field := ({ Header := (-1), Field := 0 } : api_FieldRef), Kind := 1 } : api_TableKey), ({ Field := ({ Header := (-1), Field := 1 } : api_FieldRef), Kind := 3 } : api_TableKey)] : List api_TableKey), Actions := ([0] : List Int), Default := ({ Action := 0, Args := ([] : List (BitVec 32)) } : api_ActionCall), Size := 4 } : api_Table), ({ Name := ([117] : List UInt8), Keys := ([] : List api_TableKey), Actions := ([0] : List Int), Default := ({ Action := 0, Args := ([] : List (BitVec 32)) } : api_ActionCall), Size := 1 } : api_Table)] : List api_Table), States := ([] : List api_ParserState), Control := ([] : List api_ControlNode), Deparser := ([] : List Int) } : api_Program) 1) = 0))) && (ref02_EqualUint32s (table_Key ({ Name := ([] : List UInt8), Headers := ([] : List api_Header), Metadata := ([({ Name := ([105, 110] : List UInt8), Width := 8 } : api_Field), ({ Name := ([109] : List UInt8), Width := 4 } : api_Field)] : List api_Field), Registers := ([] : List api_Register), Actions := ([({ Name := ([110, 111, 112] : List UInt8), Params := ([] : List api_Field), Body := ([] : List api_Statement) } : api_Action)] : List api_Action), Tables := ([({ Name := ([116] : List UInt8), Keys := ([({ Field := ({ Header := (-1), Field := 0 } : api_FieldRef), Kind := 1 } : api_TableKey), ({ Field := ({ Header := (-1), Field := 1 } : api_FieldRef), Kind := 3 } : api_TableKey)] : List api_TableKey), Actions := ([0] : List Int), Default := ({ Action := 0, Args := ([] : List (BitVec 32)) } : api_ActionCall), Size := 4 } : api_Table), ({ Name := ([117] : List UInt8), Keys := ([] : List api_TableKey), Actions := ([0] : List Int), Default := ({ Action := 0, Args := ([] : List (BitVec 32)) } : api_ActionCall), Size := 1 } : api_Table)] : List api_Table), States := ([] : List api_ParserState), Control := ([] : List api_ControlNode), Deparser := ([] : List Int) } : api_Program) 0 ({ Valid := ([] : List Bool), Fields := ([] : List (List (BitVec 32))), Metd := ([7#32, 19#32] : List (BitVec 32)), Payload := ([] : List UInt8) } : api_Env)) ([7#32, 3#32] : List (BitVec 32)))) && (table_Allows ({ Name := ([] : List UInt8), Headers := ([] : List api_Header), Metadata := ([({ Name := ([105, 110] : List UInt8), Width := 8 } : api_Field), ({ Name := ([109] : List UInt8), Width := 4 } : api_Field)] : List api_Field), Registers := ([] : List api_Register), Actions := ([({ Name := ([110, 111, 112] : List UInt8), Params := ([] : List api_Field), Body := ([] : List api_Statement) } : api_Action)] : List api_Action), Tables := ([({ Name := ([116] : List UInt8), Keys := ([({ Field := ({ Header := (-1), Field := 0 } : api_FieldRef), Kind := 1 } : api_TableKey), ({ Field := ({ Header := (-1), Field := 1 } : api_FieldRef), Kind := 3 } : api_TableKey)] : List api_TableKey), Actions := ([0] : List Int), Default := ({ Action := 0, Args := ([] : List (BitVec 32)) } : api_ActionCall), Size := 4 } : api_Table), ({ Name := ([117] : List UInt8), Keys := ([] : List api_TableKey), Actions := ([0] : List Int), Default := ({ Action := 0, Args := ([] : List (BitVec 32)) } : api_ActionCall), Size := 1 } : api_Table)] : List api_Table), States := ([] : List api_ParserState), Control := ([] : List api_ControlNode), Deparser := ([] : List Int) } : api_Program) 0 0)) && (!(table_Allows ({ Name := ([] : List UInt8), Headers := ([] : List api_Header), Metadata := ([({ Name := ([105, 110] : List UInt8), Width := 8 } : api_Field), ({ Name := ([109] : List UInt8), Width := 4 } : api_Field)] : List api_Field), Registers := ([] : List api_Register), Actions := ([({ Name := ([110, 111, 112] : List UInt8), Params := ([] : List api_Field), Body := ([] : List api_Statement) } : api_Action)] : List api_Action), Tables := ([({ Name := ([116] : List UInt8), Keys := ([({ Field := ({ Header := (-1), Field := 0 } : api_FieldRef), Kind := 1 } : api_TableKey), ({ Field := ({ Header := (-1), Field := 1 } : api_FieldRef), Kind := 3 } : api_TableKey)] : List api_TableKey), Actions := ([0] : List Int), Default := ({ Action := 0, Args := ([] : List (BitVec 32)) } : api_ActionCall), Size := 4 } : api_Table), ({ Name := ([117] : List UInt8), Keys := ([] : List api_TableKey), Actions := ([0] : List Int), Default := ({ Action := 0, Args := ([] : List (BitVec 32)) } : api_ActionCall), Size := 1 } : api_Table)] : List api_Table), States := ([] : List api_ParserState), Control := ([] : List api_ControlNode), Deparser := ([] : List Int) } : api_Program) 0 1)))

/-- patchbay/patchbayref05.letter -/
def ref05_letter (x0 : UInt8) : Bool :=
  (((decide ((97 : UInt8) ≤ x0)) && (decide (x0 ≤ (122 : UInt8)))) || ((decide ((65 : UInt8) ≤ x0)) && (decide (x0 ≤ (90 : UInt8)))))

/-- patchbay/patchbayref05.digit -/
def ref05_digit (x0 : UInt8) : Bool :=
  ((decide ((48 : UInt8) ≤ x0)) && (decide (x0 ≤ (57 : UInt8))))

def ref05_IsIdentifier_L1 (x0 : List UInt8) (K0 : Unit → Bool) : Nat → Int → Bool
  | 0, x3_ => K0 ()
  | m + 1, x3_ =>
    LET (ref05_letter (ix x0 x3_)) fun y107 =>
    if (((!y107) && (!(ref05_digit (ix x0 x3_)))) && (!decide ((ix x0 x3_) = (95 : UInt8)))) then
      false
    else
    ref05_IsIdentifier_L1 x0 K0 m (x3_ + 1)
/-- patchbay/patchbayref05.IsIdentifier -/
def ref05_IsIdentifier (x0 : List UInt8) : Bool :=
  if (((decide (x0 = ([] : List UInt8))) || (decide (16 < (x0.length : Int)))) || (!(ref05_letter (ix x0 0)))) then
    false
  else
  ref05_IsIdentifier_L1 x0 (fun (_ : Unit) =>
      true) (Int.toNat ((x0.length : Int) - 0)) 0

/-- patchbay/patchbayref17.width -/
def ref17_width (x0 : api_Program) (x1 : api_FieldRef) : Int :=
  LET (fun (x5_108 : List api_Field) =>
    if (((((decide (x1.Header < (-1))) || (decide (x1.Field < 0))) || (decide ((x5_108.length : Int) ≤ x1.Field))) || (decide (((ix x5_108 x1.Field).Width) < 1))) || (decide (32 < ((ix x5_108 x1.Field).Width)))) then
      0
    else
    (ix x5_108 x1.Field).Width) fun k108 =>
  if (decide (0 ≤ x1.Header)) then
    if (decide ((x0.Headers.length : Int) ≤ x1.Header)) then
      0
    else
    k108 ((ix x0.Headers x1.Header).Fields)
  else
  k108 x0.Metadata

def ref17_keys_L1 (x0 : api_Program) (x1 : api_Table) (K0 : Int → Int → (Int × Int)) : Nat → Int → Int → Int → (Int × Int)
  | 0, x6_, x7_, x8_ => K0 x6_ x7_
  | m + 1, x6_, x7_, x8_ =>
    LET (ref17_width x0 ((ix x1.Keys x8_).Field)) fun y108 =>
    if (decide (y108 = 0)) then
      (x8_, 8)
    else
    if (((!decide (((ix x1.Keys x8_).Kind) = 1)) && (!decide (((ix x1.Keys x8_).Kind) = 2))) && (!decide (((ix x1.Keys x8_).Kind) = 3))) then
      (x8_, 11)
    else
    if (decide (((ix x1.Keys x8_).Kind) = 2)) then
      ref17_keys_L1 x0 x1 K0 m (wr (x6_ + y108)) (wr (x7_ + 1)) (x8_ + 1)
    else
    ref17_keys_L1 x0 x1 K0 m (wr (x6_ + y108)) x7_ (x8_ + 1)
/-- patchbay/patchbayref17.keys -/
def ref17_keys (x0 : api_Program) (x1 : api_Table) : Int × Int :=
  ref17_keys_L1 x0 x1 (fun (x6_116 : Int) (x7_116 : Int) =>
      if (decide (1 < x7_116)) then
        ((-2), 7)
      else
      if (decide (64 < x6_116)) then
        ((-2), 10)
      else
      (0, 0)) (Int.toNat ((x1.Keys.length : Int) - 0)) 0 0 0

def ref17_index_L1 (x0 : List Int) (x1 : Int) (K0 : Unit → Int) : Nat → Int → Int
  | 0, x5_ => K0 ()
  | m + 1, x5_ =>
    if (decide ((ix x0 x5_) = x1)) then
      x5_
    else
    ref17_index_L1 x0 x1 K0 m (x5_ + 1)
/-- patchbay/patchbayref17.index -/
def ref17_index (x0 : List Int) (x1 : Int) : Int :=
  ref17_index_L1 x0 x1 (fun (_ : Unit) =>
      (-1)) (Int.toNat ((x0.length : Int) - 0)) 0

/-- patchbay/patchbayref01.valid -/
def ref01_valid (x0 : Int) : Bool :=
  ((decide (1 ≤ x0)) && (decide (x0 ≤ 32)))

def ref01_power_L1 (K0 : (BitVec 64) → (BitVec 64)) : Nat → (BitVec 64) → Int → (BitVec 64)
  | 0, x3_, x4_ => K0 x3_
  | m + 1, x3_, x4_ =>
    ref01_power_L1 K0 m (2#64 * x3_) (x4_ + 1)
/-- patchbay/patchbayref01.power -/
def ref01_power (x0 : Int) : (BitVec 64) :=
  ref01_power_L1 (fun (x3_103 : BitVec 64) =>
      x3_103) (Int.toNat (x0 - 0)) 1#64 0

/-- patchbay/patchbayref01.Fits -/
def ref01_Fits (x0 : BitVec 32) (x1 : Int) : Bool :=
  LET (ref01_valid x1) fun y101 =>
  (y101 && (decide ((BitVec.setWidth 64 x0) < (ref01_power x1))))

def ref16_CheckCall_L1 (x0 : api_Program) (x1 : api_ActionCall) (K0 : Unit → Int) : Nat → Int → Int
  | 0, x6_ => K0 ()
  | m + 1, x6_ =>
    LET (ref01_Fits (ix x1.Args x6_) ((ix ((ix x0.Actions x1.Action).Params) x6_).Width)) fun y113 =>
    if (!y113) then
      9
    else
    ref16_CheckCall_L1 x0 x1 K0 m (x6_ + 1)
/-- patchbay/patchbayref16.CheckCall -/
def ref16_CheckCall (x0 : api_Program) (x1 : api_ActionCall) : Int :=
  if ((decide (x1.Action < 0)) || (decide ((x0.Actions.length : Int) ≤ x1.Action))) then
    8
  else
  if (!decide ((x1.Args.length : Int) = (((ix x0.Actions x1.Action).Params).length : Int))) then
    2
  else
  ref16_CheckCall_L1 x0 x1 (fun (_ : Unit) =>
      0) (Int.toNat ((((ix x0.Actions x1.Action).Params).length : Int) - 0)) 0

def ref17_actions_L1 (x0 : api_Program) (x1 : api_Table) (K0 : Unit → Int) : Nat → Int → Int
  | 0, x5_ => K0 ()
  | m + 1, x5_ =>
    if ((decide ((ix x1.Actions x5_) < 0)) || (decide ((x0.Actions.length : Int) ≤ (ix x1.Actions x5_)))) then
      8
    else
    LET (ref17_index x1.Actions (ix x1.Actions x5_)) fun y112 =>
    if (decide (y112 < x5_)) then
      7
    else
    ref17_actions_L1 x0 x1 K0 m (x5_ + 1)
/-- patchbay/patchbayref17.actions -/
def ref17_actions (x0 : api_Program) (x1 : api_Table) : Int :=
  ref17_actions_L1 x0 x1 (fun (_ : Unit) =>
      LET (ref17_index x1.Actions x1.Default.Action) fun y117 =>
      if (decide (y117 < 0)) then
        8
      else
      LET (ref16_CheckCall x0 x1.Default) fun y120 =>
      y120) (Int.toNat ((x1.Actions.length : Int) - 0)) 0

/-- patchbay/patchbayref17.Check -/
def ref17_Check (x0 : api_Program) (x1 : Int) : Int × Int :=
  if ((decide (x1 < 0)) || (decide ((x0.Tables.length : Int) ≤ x1))) then
    ((-1), 8)
  else
  LET (ref05_IsIdentifier ((ix x0.Tables x1).Name)) fun y109 =>
  if (!y109) then
    ((-1), 6)
  else
  if ((decide (6 < (((ix x0.Tables x1).Keys).length : Int))) || (decide (16 < (((ix x0.Tables x1).Actions).length : Int)))) then
    ((-1), 12)
  else
  if ((decide (((ix x0.Tables x1).Size) < 1)) || (decide (256 < ((ix x0.Tables x1).Size)))) then
    ((-1), 9)
  else
  LET (ref17_keys x0 (ix x0.Tables x1)) fun y117 =>
  if (!decide (y117.2 = 0)) then
    (y117.1, y117.2)
  else
  LET (ref17_actions x0 (ix x0.Tables x1)) fun y119 =>
  if (!decide (y119 = 0)) then
    ((-3), y119)
  else
  (0, 0)

/-- patchbay/patchbaylaw17.TableChecks -/
def law17_TableChecks (x0 : api_Program) (x1 : Int) : Bool :=
  LET (law17_Small x0) fun y101 =>
  if (!y101) then
    LET (law17_works) fun y103 =>
    y103
  else
  LET (table_Check x0 x1) fun y104 =>
  LET (ref17_Check x0 x1) fun y105 =>
  (((decide (y104.1 = y105.1)) && (decide (y104.2 = y105.2))) && (law17_works))

/-- patchbay/patchbayref17.valid -/
def ref17_valid (x0 : api_Program) (x1 : Int) : Bool :=
  LET (ref17_Check x0 x1) fun y101 =>
  (decide (y101.2 = 0))

def ref17_Kind_L1 (x0 : api_Program) (x1 : Int) (K0 : Int → Int) : Nat → Int → Int → Int
  | 0, x5_, x6_ => K0 x5_
  | m + 1, x5_, x6_ =>
    ref17_Kind_L1 x0 x1 K0 m (max x5_ ((ix ((ix x0.Tables x1).Keys) x6_).Kind)) (x6_ + 1)
/-- patchbay/patchbayref17.Kind -/
def ref17_Kind (x0 : api_Program) (x1 : Int) : Int :=
  LET (ref17_valid x0 x1) fun y101 =>
  if (!y101) then
    0
  else
  ref17_Kind_L1 x0 x1 (fun (x5_115 : Int) =>
      x5_115) (Int.toNat ((((ix x0.Tables x1).Keys).length : Int) - 0)) 1 0

def ref17_Widths_L1 (x0 : api_Program) (x1 : Int) (K0 : (List Int) → (List Int)) : Nat → Int → (List Int) → (List Int)
  | 0, x6_, zE104 => K0 zE104
  | m + 1, x6_, zE104 =>
    LET (ref17_width x0 ((ix ((ix x0.Tables x1).Keys) x6_).Field)) fun y118 =>
    ref17_Widths_L1 x0 x1 K0 m (x6_ + 1) (zE104 ++ ([y118] : List Int))
/-- patchbay/patchbayref17.Widths -/
def ref17_Widths (x0 : api_Program) (x1 : Int) : (List Int) :=
  LET (ref17_valid x0 x1) fun y101 =>
  if (!y101) then
    ([] : List Int)
  else
  ref17_Widths_L1 x0 x1 (fun (zE104_121 : List Int) =>
      zE104_121) (Int.toNat ((((ix x0.Tables x1).Keys).length : Int) - 0)) 0 ([] : List Int)

def ref02_EqualInts_L1 (x0 : List Int) (x1 : List Int) (K0 : Unit → Bool) : Nat → Int → Bool
  | 0, x5_ => K0 ()
  | m + 1, x5_ =>
    if (!decide ((ix x0 x5_) = (ix x1 x5_))) then
      false
    else
    ref02_EqualInts_L1 x0 x1 K0 m (x5_ + 1)
/-- patchbay/patchbayref02.EqualInts -/
def ref02_EqualInts (x0 : List Int) (x1 : List Int) : Bool :=
  if (!decide ((x0.length : Int) = (x1.length : Int))) then
    false
  else
  ref02_EqualInts_L1 x0 x1 (fun (_ : Unit) =>
      true) (Int.toNat ((x0.length : Int) - 0)) 0

def ref17_Bits_L1 (y101 : (List Int)) (K0 : Int → Int) : Nat → Int → Int → Int
  | 0, x6_, x7_ => K0 x6_
  | m + 1, x6_, x7_ =>
    ref17_Bits_L1 y101 K0 m (wr (x6_ + (ix y101 x7_))) (x7_ + 1)
/-- patchbay/patchbayref17.Bits -/
def ref17_Bits (x0 : api_Program) (x1 : Int) : Int :=
  LET (ref17_Widths x0 x1) fun y101 =>
  ref17_Bits_L1 y101 (fun (x6_105 : Int) =>
      x6_105) (Int.toNat ((y101.length : Int) - 0)) 0 0

/-- patchbay/patchbayref17.Allows -/
def ref17_Allows (x0 : api_Program) (x1 : Int) (x2 : Int) : Bool :=
  LET (ref17_valid x0 x1) fun y101 =>
  (y101 && (decide (0 ≤ (ref17_index ((ix x0.Tables x1).Actions) x2))))

/-- patchbay/patchbaylaw17.TableQueries -/
def law17_TableQueries (x0 : api_Program) (x1 : Int) (x2 : Int) : Bool :=
  LET (law17_Small x0) fun y101 =>
  if (!y101) then
    LET (law17_works) fun y103 =>
    y103
  else
  LET (table_Kind x0 x1) fun y104 =>
  LET (ref17_Kind x0 x1) fun y105 =>
  (((((decide (y104 = y105)) && (ref02_EqualInts (table_Widths x0 x1) (ref17_Widths x0 x1))) && (decide ((table_Bits x0 x1) = (ref17_Bits x0 x1)))) && (decide ((table_Allows x0 x1 x2) = (ref17_Allows x0 x1 x2)))) && (law17_works))

def law17_SmallEnv_L1 (x0 : api_Env) (K0 : Unit → Bool) : Nat → Int → Bool
  | 0, x3_ => K0 ()
  | m + 1, x3_ =>
    if (decide (30 < ((ix x0.Fields x3_).length : Int))) then
      false
    else
    law17_SmallEnv_L1 x0 K0 m (x3_ + 1)
/-- patchbay/patchbaylaw17.SmallEnv -/
def law17_SmallEnv (x0 : api_Env) : Bool :=
  if ((((decide (20 < (x0.Valid.length : Int))) || (decide (20 < (x0.Fields.length : Int)))) || (decide (30 < (x0.Metd.length : Int)))) || (decide (300 < (x0.Payload.length : Int)))) then
    false
  else
  law17_SmallEnv_L1 x0 (fun (_ : Unit) =>
      true) (Int.toNat ((x0.Fields.length : Int) - 0)) 0

/-- patchbay/patchbayref12.element -/
def ref12_element (x0 : api_Env) (x1 : api_FieldRef) : Bool :=
  if (decide (x1.Header = (-1))) then
    ((decide (0 ≤ x1.Field)) && (decide (x1.Field < (x0.Metd.length : Int))))
  else
  ((((decide (0 ≤ x1.Header)) && (decide (x1.Header < (x0.Fields.length : Int)))) && (decide (0 ≤ x1.Field))) && (decide (x1.Field < ((ix x0.Fields x1.Header).length : Int))))

/-- patchbay/patchbayref12.Has -/
def ref12_Has (x0 : api_Env) (x1 : Int) : Bool :=
  (((decide (0 ≤ x1)) && (decide (x1 < (x0.Valid.length : Int)))) && (ix x0.Valid x1))

/-- patchbay/patchbayref12.Get -/
def ref12_Get (x0 : api_Env) (x1 : api_FieldRef) : (BitVec 32) :=
  LET (ref12_element x0 x1) fun y101 =>
  if (!y101) then
    0#32
  else
  if (decide (x1.Header = (-1))) then
    (ix x0.Metd x1.Field)
  else
  LET (ref12_Has x0 x1.Header) fun y105 =>
  if (!y105) then
    0#32
  else
  (ix (ix x0.Fields x1.Header) x1.Field)

/-- patchbay/patchbayref01.Mask -/
def ref01_Mask (x0 : Int) : (BitVec 32) :=
  LET (ref01_valid x0) fun y101 =>
  if (!y101) then
    0#32
  else
  LET (ref01_power x0) fun y103 =>
  (BitVec.setWidth 32 (y103 - 1#64))

def ref17_Key_L1 (x0 : api_Program) (x1 : Int) (x2 : api_Env) (y101 : (List Int)) (K0 : (List (BitVec 32)) → (List (BitVec 32))) : Nat → Int → (List (BitVec 32)) → (List (BitVec 32))
  | 0, x9_, zE104 => K0 zE104
  | m + 1, x9_, zE104 =>
    LET (ref12_Get x2 ((ix ((ix x0.Tables x1).Keys) x9_).Field)) fun y112 =>
    LET (ref01_Mask (ix y101 x9_)) fun y113 =>
    ref17_Key_L1 x0 x1 x2 y101 K0 m (x9_ + 1) (zE104 ++ ([(y112 &&& y113)] : List (BitVec 32)))
/-- patchbay/patchbayref17.Key -/
def ref17_Key (x0 : api_Program) (x1 : Int) (x2 : api_Env) : (List (BitVec 32)) :=
  LET (ref17_Widths x0 x1) fun y101 =>
  ref17_Key_L1 x0 x1 x2 y101 (fun (zE104_116 : List (BitVec 32)) =>
      zE104_116) (Int.toNat ((y101.length : Int) - 0)) 0 ([] : List (BitVec 32))

/-- patchbay/patchbaylaw17.TableKeys -/
def law17_TableKeys (x0 : api_Program) (x1 : Int) (x2 : api_Env) : Bool :=
  LET (law17_Small x0) fun y101 =>
  if ((!y101) || (!(law17_SmallEnv x2))) then
    LET (law17_works) fun y105 =>
    y105
  else
  LET (table_Key x0 x1 x2) fun y106 =>
  LET (ref17_Key x0 x1 x2) fun y108 =>
  LET (ref02_EqualUint32s y106 y108) fun y110 =>
  (y110 && (law17_works))

def law17_TableConsistent_L1 (y107 : (List Int)) (y109 : (List (BitVec 32))) (K0 : Int → Bool) : Nat → Int → Int → Bool
  | 0, x12_, x13_ => K0 x12_
  | m + 1, x12_, x13_ =>
    if (((decide ((ix y107 x13_) < 1)) || (decide (32 < (ix y107 x13_)))) || (decide (1#32 < ((ix y109 x13_) >>> (wr ((ix y107 x13_) - 1)).toNat)))) then
      false
    else
    law17_TableConsistent_L1 y107 y109 K0 m (wr (x12_ + (ix y107 x13_))) (x13_ + 1)
def law17_TableConsistent_L3 (x0 : api_Program) (x1 : Int) (x14_ : Int) (K4 : Bool → Bool) : Nat → Bool → Int → Bool
  | 0, x15_, x16_ => K4 x15_
  | m + 1, x15_, x16_ =>
    law17_TableConsistent_L3 x0 x1 x14_ K4 m (x15_ || (decide ((ix ((ix x0.Tables x1).Actions) x16_) = x14_))) (x16_ + 1)
def law17_TableConsistent_L2 (x0 : api_Program) (x1 : Int) (K2 : Unit → Bool) : Nat → Int → Bool
  | 0, x14_ => K2 ()
  | m + 1, x14_ =>
    law17_TableConsistent_L3 x0 x1 x14_ (fun (x15_144 : Bool) =>
        LET (table_Allows x0 x1 x14_) fun y145 =>
        if (!decide (y145 = x15_144)) then
          false
        else
        law17_TableConsistent_L2 x0 x1 K2 m (x14_ + 1)) (Int.toNat ((((ix x0.Tables x1).Actions).length : Int) - 0)) false 0
/-- patchbay/patchbaylaw17.TableConsistent -/
def law17_TableConsistent (x0 : api_Program) (x1 : Int) (x2 : api_Env) : Bool :=
  LET (law17_Small x0) fun y101 =>
  if ((!y101) || (!(law17_SmallEnv x2))) then
    LET (law17_works) fun y105 =>
    y105
  else
  LET (table_Check x0 x1) fun y106 =>
  LET (table_Widths x0 x1) fun y107 =>
  LET (table_Key x0 x1 x2) fun y109 =>
  if (!decide (y106.2 = 0)) then
    LET (table_Kind x0 x1) fun y112 =>
    (((((decide (y112 = 0)) && (decide ((y107.length : Int) = 0))) && (decide ((table_Bits x0 x1) = 0))) && (decide ((y109.length : Int) = 0))) && (law17_works))
  else
  if ((!decide ((y107.length : Int) = (((ix x0.Tables x1).Keys).length : Int))) || (!decide ((y109.length : Int) = (((ix x0.Tables x1).Keys).length : Int)))) then
    false
  else
  law17_TableConsistent_L1 y107 y109 (fun (x12_133 : Int) =>
      law17_TableConsistent_L2 x0 x1 (fun (_ : Unit) =>
          LET (table_Bits x0 x1) fun y148 =>
          ((((decide (x12_133 = y148)) && (decide (x12_133 ≤ 64))) && (table_Allows x0 x1 (((ix x0.Tables x1).Default).Action))) && (law17_works))) (Int.toNat (((x0.Actions.length : Int) + 1) - (-1))) (-1)) (Int.toNat ((y107.length : Int) - 0)) 0 0

/-- patchbay/patchbaylaw23.Small -/
def law23_Small (x0 : api_Entry) : Bool :=
  ((decide ((x0.Keys.length : Int) ≤ 10)) && (decide ((x0.Call.Args.length : Int) ≤ 10)))

/-- patchbay/patchbaylaw23.program -/
def law23_program (x0 : Int) : api_Program :=
  ({ Name := ([] : List UInt8), Headers := ([] : List api_Header), Metadata := ([({ Name := ([105, 110] : List UInt8), Width := 8 } : api_Field)] : List api_Field), Registers := ([] : List api_Register), Actions := ([({ Name := ([110, 111, 112] : List UInt8), Params := ([] : List api_Field), Body := ([] : List api_Statement) } : api_Action)] : List api_Action), Tables := ([({ Name := ([116] : List UInt8), Keys := ([({ Field := ({ Header := (-1), Field := 0 } : api_FieldRef), Kind := x0 } : api_TableKey)] : List api_TableKey), Actions := ([0] : List Int), Default := ({ Action := 0, Args := ([] : List (BitVec 32)) } : api_ActionCall), Size := 4 } : api_Table)] : List api_Table), States := ([] : List api_ParserState), Control := ([] : List api_ControlNode), Deparser := ([] : List Int) } : api_Program)

/-- patchbay/bitvec.PrefixMask -/
def bitvec_PrefixMask (x0 : Int) (x1 : Int) : (BitVec 32) :=
  LET (bitvec_valid ([x1] : List Int)) fun y102 =>
  if (!y102) then
    0#32
  else
  LET (bitvec_Mask x1) fun y104 =>
  LET (bitvec_Mask x1) fun y105 =>
  (y104 &&& ~~~(y105 >>> (min (max x0 0) x1).toNat))

def bitvec_PrefixLen_L1 (x0 : BitVec 32) (x1 : Int) (K0 : Unit → (Int × Bool)) : Nat → Int → (Int × Bool)
  | 0, x13_ => K0 ()
  | m + 1, x13_ =>
    LET (bitvec_PrefixMask x13_ x1) fun y106 =>
    if (decide (y106 = x0)) then
      (x13_, true)
    else
    bitvec_PrefixLen_L1 x0 x1 K0 m (x13_ + 1)
/-- patchbay/bitvec.PrefixLen -/
def bitvec_PrefixLen (x0 : BitVec 32) (x1 : Int) : Int × Bool :=
  LET (bitvec_valid ([x1] : List Int)) fun y102 =>
  if (!y102) then
    (0, false)
  else
  bitvec_PrefixLen_L1 x0 x1 (fun (_ : Unit) =>
      (0, false)) (Int.toNat ((wr (x1 + 1)) - 0)) 0

/-- patchbay/entry.checkKey -/
def entry_checkKey (x0 : api_KeyMatch) (x1 : Int) (x2 : Int) : Int :=
  LET (bitvec_Fits x0.Value x2) fun y101 =>
  if ((!y101) || (!(bitvec_Fits x0.Mask x2))) then
    9
  else
  if (!decide ((x0.Value &&& ~~~x0.Mask) = 0#32)) then
    5
  else
  if ((decide (x1 = 1)) && (!decide (x0.Mask = (bitvec_Mask x2)))) then
    11
  else
  LET (fun (_ : Unit) =>
    0) fun k112 =>
  if (decide (x1 = 2)) then
    LET (bitvec_PrefixLen x0.Mask x2) fun y114 =>
    if (!y114.2) then
      11
    else
    k112 ()
  else
  k112 ()

def entry_Check_L1 (x0 : api_Program) (x1 : Int) (x2 : api_Entry) (y106 : (List Int)) (K0 : Unit → Int) : Nat → Int → Int
  | 0, x41_ => K0 ()
  | m + 1, x41_ =>
    LET (entry_checkKey (ix x2.Keys x41_) ((ix ((ix x0.Tables x1).Keys) x41_).Kind) (ix y106 x41_)) fun y118 =>
    if (!decide (y118 = 0)) then
      y118
    else
    entry_Check_L1 x0 x1 x2 y106 K0 m (x41_ + 1)
/-- patchbay/entry.Check -/
def entry_Check (x0 : api_Program) (x1 : Int) (x2 : api_Entry) : Int :=
  LET (table_Check x0 x1) fun y101 =>
  if (!decide (y101.2 = 0)) then
    y101.2
  else
  LET (table_Widths x0 x1) fun y106 =>
  if (!decide ((x2.Keys.length : Int) = (((ix x0.Tables x1).Keys).length : Int))) then
    2
  else
  entry_Check_L1 x0 x1 x2 y106 (fun (_ : Unit) =>
      if ((decide (x2.Priority < 0)) || (decide (255 < x2.Priority))) then
        9
      else
      if ((!decide (x2.Priority = 0)) && (!decide ((table_Kind x0 x1) = 3))) then
        11
      else
      LET (table_Allows x0 x1 x2.Call.Action) fun y127 =>
      if (!y127) then
        8
      else
      LET (action_CheckCall x0 x2.Call) fun y130 =>
      y130) (Int.toNat ((x2.Keys.length : Int) - 0)) 0

def entry_Matches_L1 (x0 : api_Entry) (x1 : List (BitVec 32)) (K0 : Unit → Bool) : Nat → Int → Bool
  | 0, x16_ => K0 ()
  | m + 1, x16_ =>
    if (!decide ((((ix x1 x16_) ^^^ ((ix x0.Keys x16_).Value)) &&& ((ix x0.Keys x16_).Mask)) = 0#32)) then
      false
    else
    entry_Matches_L1 x0 x1 K0 m (x16_ + 1)
/-- patchbay/entry.Matches -/
def entry_Matches (x0 : api_Entry) (x1 : List (BitVec 32)) : Bool :=
  if (!decide ((x1.length : Int) = (x0.Keys.length : Int))) then
    false
  else
  entry_Matches_L1 x0 x1 (fun (_ : Unit) =>
      true) (Int.toNat ((x0.Keys.length : Int) - 0)) 0

def bitvec_OnesCount_L1 (x0 : BitVec 32) (K0 : Int → Int) : Nat → Int → Int → Int
  | 0, x3_, x5_ => K0 x3_
  | m + 1, x3_, x5_ =>
    bitvec_OnesCount_L1 x0 K0 m (wr (x3_ + (((x0 >>> x5_.toNat) &&& 1#32).toNat : Int))) (x5_ + 1)
/-- patchbay/bitvec.OnesCount -/
def bitvec_OnesCount (x0 : BitVec 32) : Int :=
  bitvec_OnesCount_L1 x0 (fun (x3_103 : Int) =>
      x3_103) (Int.toNat (32 - 0)) 0 0

def entry_prefix_L1 (x0 : api_Program) (x1 : Int) (x2 : api_Entry) (K0 : Unit → Int) : Nat → Int → Int
  | 0, x25_ => K0 ()
  | m + 1, x25_ =>
    if (decide (((ix ((ix x0.Tables x1).Keys) x25_).Kind) = 2)) then
      if (decide (x25_ < (x2.Keys.length : Int))) then
        LET (bitvec_OnesCount ((ix x2.Keys x25_).Mask)) fun y118 =>
        y118
      else
      0
    else
    entry_prefix_L1 x0 x1 x2 K0 m (x25_ + 1)
/-- patchbay/entry.prefix -/
def entry_prefix (x0 : api_Program) (x1 : Int) (x2 : api_Entry) : Int :=
  if ((decide (x1 < 0)) || (decide ((x0.Tables.length : Int) ≤ x1))) then
    0
  else
  entry_prefix_L1 x0 x1 x2 (fun (_ : Unit) =>
      0) (Int.toNat ((((ix x0.Tables x1).Keys).length : Int) - 0)) 0

/-- patchbay/entry.Precedes -/
def entry_Precedes (x0 : api_Program) (x1 : Int) (x2 : api_Row) (x3 : api_Row) : Bool :=
  if (!decide (x2.Entry.Priority = x3.Entry.Priority)) then
    (decide (x3.Entry.Priority < x2.Entry.Priority))
  else
  LET (entry_prefix x0 x1 x2.Entry) fun y107 =>
  LET (entry_prefix x0 x1 x3.Entry) fun y109 =>
  if (!decide (y107 = y109)) then
    (decide (y109 < y107))
  else
  (decide (x2.ID < x3.ID))

def entry_SameKey_L1 (x0 : api_Entry) (x1 : api_Entry) (K0 : Unit → Bool) : Nat → Int → Bool
  | 0, x24_ => K0 ()
  | m + 1, x24_ =>
    if (!decide ((ix x0.Keys x24_) = (ix x1.Keys x24_))) then
      false
    else
    entry_SameKey_L1 x0 x1 K0 m (x24_ + 1)
/-- patchbay/entry.SameKey -/
def entry_SameKey (x0 : api_Entry) (x1 : api_Entry) : Bool :=
  if ((!decide (x0.Priority = x1.Priority)) || (!decide ((x0.Keys.length : Int) = (x1.Keys.length : Int)))) then
    false
  else
  entry_SameKey_L1 x0 x1 (fun (_ : Unit) =>
      true) (Int.toNat ((x0.Keys.length : Int) - 0)) 0

def entry_equal_uint32_L1 (x0 : List (BitVec 32)) (x1 : List (BitVec 32)) (K0 : Unit → Bool) : Nat → Int → Bool
  | 0, x14_ => K0 ()
  | m + 1, x14_ =>
    if (!decide ((ix x0 x14_) = (ix x1 x14_))) then
      false
    else
    entry_equal_uint32_L1 x0 x1 K0 m (x14_ + 1)
/-- patchbay/entry.equal[uint32] -/
def entry_equal_uint32 (x0 : List (BitVec 32)) (x1 : List (BitVec 32)) : Bool :=
  if (!decide ((x0.length : Int) = (x1.length : Int))) then
    false
  else
  entry_equal_uint32_L1 x0 x1 (fun (_ : Unit) =>
      true) (Int.toNat ((x0.length : Int) - 0)) 0

/-- patchbay/entry.Equal -/
def entry_Equal (x0 : api_Entry) (x1 : api_Entry) : Bool :=
  LET (entry_SameKey x0 x1) fun y101 =>
  ((y101 && (decide (x0.Call.Action = x1.Call.Action))) && (entry_equal_uint32 x0.Call.Args x1.Call.Args))

/-- patchbay/patchbaylaw23.works -/
def law23_works : Bool :=
  LET (law23_program 2) fun y101 =>
  LET (entry_Check y101 0 ({ Keys := ([({ Value := 48#32, Mask := 240#32 } : api_KeyMatch)] : List api_KeyMatch), Priority := 0, Call := ({ Action := 0, Args := ([] : List (BitVec 32)) } : api_ActionCall) } : api_Entry)) fun y118 =>
  ((((((((decide (y118 = 0)) && (decide ((entry_Check y101 0 ({ Keys := ([({ Value := 3#32, Mask := 15#32 } : api_KeyMatch)] : List api_KeyMatch), Priority := 0, Call := ({ Action := 0, Args := ([] : List (BitVec 32)) } : api_ActionCall) } : api_Entry)) = 11))) && (entry_Matches ({ Keys := ([({ Value := 48#32, Mask := 240#32 } : api_KeyMatch)] : List api_KeyMatch), Priority := 0, Call := ({ Action := 0, Args := ([] : List (BitVec 32)) } : api_ActionCall) } : api_Entry) ([53#32] : List (BitVec 32)))) && (!(entry_Matches ({ Keys := ([({ Value := 48#32, Mask := 240#32 } : api_KeyMatch)] : List api_KeyMatch), Priority := 0, Call := ({ Action := 0, Args := ([] : List (BitVec 32)) } : api_ActionCall) } : api_Entry) ([69#32] : List (BitVec 32))))) && (entry_Precedes y101 0 ({ ID := 2, Entry := ({ Keys := ([({ Value := 48#32, Mask := 240#32 } : api_KeyMatch)] : List api_KeyMatch), Priority := 0, Call := ({ Action := 0, Args := ([] : List (BitVec 32)) } : api_ActionCall) } : api_Entry) } : api_Row) ({ ID := 1, Entry := ({ Keys := ([({ Value := 0#32, Mask := 0#32 } : api_KeyMatch)] : List api_KeyMatch), Priority := 0, Call := ({ Action := 0, Args := ([] : List (BitVec 32)) } : api_ActionCall) } : api_Entry) } : api_Row))) && (!(entry_Precedes y101 0 ({ ID := 1, Entry := ({ Keys := ([({ Value := 0#32, Mask := 0#32 } : api_KeyMatch)] : List api_KeyMatch), Priority := 0, Call := ({ Action := 0, Args := ([] : List (BitVec 32)) } : api_ActionCall) } : api_Entry) } : api_Row) ({ ID := 2, Entry := ({ Keys := ([({ Value := 48#32, Mask := 240#32 } : api_KeyMatch)] : List api_KeyMatch), Priority := 0, Call := ({ Action := 0, Args := ([] : List (BitVec 32)) } : api_ActionCall) } : api_Entry) } : api_Row)))) && (entry_SameKey ({ Keys := ([({ Value := 48#32, Mask := 240#32 } : api_KeyMatch)] : List api_KeyMatch), Priority := 0, Call := ({ Action := 0, Args := ([] : List (BitVec 32)) } : api_ActionCall) } : api_Entry) ({ Keys := ([({ Value := 48#32, Mask := 240#32 } : api_KeyMatch)] : List api_KeyMatch), Priority := 0, Call := ({ Action := 0, Args := ([] : List (BitVec 32)) } : api_ActionCall) } : api_Entry))) && (!(entry_Equal ({ Keys := ([({ Value := 48#32, Mask := 240#32 } : api_KeyMatch)] : List api_KeyMatch), Priority := 0, Call := ({ Action := 0, Args := ([] : List (BitVec 32)) } : api_ActionCall) } : api_Entry) ({ Keys := ([({ Value := 3#32, Mask := 15#32 } : api_KeyMatch)] : List api_KeyMatch), Priority := 0, Call := ({ Action := 0, Args := ([] : List (BitVec 32)) } : api_ActionCall) } : api_Entry))))

/-- patchbay/patchbayref01.PrefixMask -/
def ref01_PrefixMask (x0 : Int) (x1 : Int) : (BitVec 32) :=
  LET (ref01_valid x1) fun y101 =>
  if (!y101) then
    0#32
  else
  LET (ref01_power x1) fun y103 =>
  LET (ref01_power (wr (x1 - (min (max x0 0) x1)))) fun y104 =>
  (BitVec.setWidth 32 (y103 - y104))

def ref01_PrefixLen_L1 (x0 : BitVec 32) (x1 : Int) (K0 : Unit → (Int × Bool)) : Nat → Int → (Int × Bool)
  | 0, x6_ => K0 ()
  | m + 1, x6_ =>
    if ((decide (x6_ ≤ x1)) && (ref01_valid x1)) then
      LET (ref01_PrefixMask x6_ x1) fun y107 =>
      if (decide (y107 = x0)) then
        (x6_, true)
      else
      ref01_PrefixLen_L1 x0 x1 K0 m (x6_ + 1)
    else
    K0 ()
/-- patchbay/patchbayref01.PrefixLen -/
def ref01_PrefixLen (x0 : BitVec 32) (x1 : Int) : Int × Bool :=
  ref01_PrefixLen_L1 x0 x1 (fun (_ : Unit) =>
      (0, false)) (Int.toNat ((x1 + 1) - 0)) 0

/-- patchbay/patchbayref23.checkKey -/
def ref23_checkKey (x0 : api_KeyMatch) (x1 : Int) (x2 : Int) : Int :=
  LET (ref01_PrefixLen x0.Mask x1) fun y101 =>
  LET (ref01_Fits x0.Value x1) fun y102 =>
  if ((!y102) || (!(ref01_Fits x0.Mask x1))) then
    9
  else
  if (!decide ((x0.Value &&& x0.Mask) = x0.Value)) then
    5
  else
  if (((decide (x2 = 1)) && (!decide (x0.Mask = (ref01_Mask x1)))) || ((decide (x2 = 2)) && (!y101.2))) then
    11
  else
  0

def ref23_Check_L1 (x0 : api_Program) (x1 : Int) (x2 : api_Entry) (y103 : (List Int)) (K0 : Unit → Int) : Nat → Int → Int
  | 0, x10_ => K0 ()
  | m + 1, x10_ =>
    LET (ref23_checkKey (ix x2.Keys x10_) (ix y103 x10_) ((ix ((ix x0.Tables x1).Keys) x10_).Kind)) fun y115 =>
    if (!decide (y115 = 0)) then
      y115
    else
    ref23_Check_L1 x0 x1 x2 y103 K0 m (x10_ + 1)
/-- patchbay/patchbayref23.Check -/
def ref23_Check (x0 : api_Program) (x1 : Int) (x2 : api_Entry) : Int :=
  LET (ref17_Check x0 x1) fun y101 =>
  if (!decide (y101.2 = 0)) then
    y101.2
  else
  LET (ref17_Widths x0 x1) fun y103 =>
  if (!decide ((x2.Keys.length : Int) = (y103.length : Int))) then
    2
  else
  ref23_Check_L1 x0 x1 x2 y103 (fun (_ : Unit) =>
      if ((decide (x2.Priority < 0)) || (decide (255 < x2.Priority))) then
        9
      else
      if ((decide (0 < x2.Priority)) && (!decide ((ref17_Kind x0 x1) = 3))) then
        11
      else
      LET (ref17_Allows x0 x1 x2.Call.Action) fun y124 =>
      if (!y124) then
        8
      else
      LET (ref16_CheckCall x0 x2.Call) fun y127 =>
      y127) (Int.toNat ((y103.length : Int) - 0)) 0

/-- patchbay/patchbaylaw23.EntryChecks -/
def law23_EntryChecks (x0 : api_Program) (x1 : Int) (x2 : api_Entry) : Bool :=
  LET (law17_Small x0) fun y101 =>
  if ((!y101) || (!(law23_Small x2))) then
    LET (law23_works) fun y105 =>
    y105
  else
  LET (entry_Check x0 x1 x2) fun y106 =>
  LET (ref23_Check x0 x1 x2) fun y107 =>
  ((decide (y106 = y107)) && (law23_works))

def ref23_Matches_L1 (x0 : api_Entry) (x1 : List (BitVec 32)) (K0 : Unit → Bool) : Nat → Int → Bool
  | 0, x5_ => K0 ()
  | m + 1, x5_ =>
    if (!decide ((((ix x1 x5_) ^^^ ((ix x0.Keys x5_).Value)) &&& ((ix x0.Keys x5_).Mask)) = 0#32)) then
      false
    else
    ref23_Matches_L1 x0 x1 K0 m (x5_ + 1)
/-- patchbay/patchbayref23.Matches -/
def ref23_Matches (x0 : api_Entry) (x1 : List (BitVec 32)) : Bool :=
  if (!decide ((x0.Keys.length : Int) = (x1.length : Int))) then
    false
  else
  ref23_Matches_L1 x0 x1 (fun (_ : Unit) =>
      true) (Int.toNat ((x1.length : Int) - 0)) 0

/-- patchbay/patchbaylaw23.EntryMatches -/
def law23_EntryMatches (x0 : api_Entry) (x1 : List (BitVec 32)) : Bool :=
  LET (law23_Small x0) fun y101 =>
  if ((!y101) || (decide (10 < (x1.length : Int)))) then
    LET (law23_works) fun y104 =>
    y104
  else
  LET (entry_Matches x0 x1) fun y105 =>
  LET (ref23_Matches x0 x1) fun y106 =>
  ((decide (y105 = y106)) && (law23_works))

def ref01_OnesCount_L1 (K0 : Int → Int) : Nat → (BitVec 32) → Int → Int → Int
  | 0, x0_, x3_, x4_ => K0 x3_
  | m + 1, x0_, x3_, x4_ =>
    ref01_OnesCount_L1 K0 m (x0_ / 2#32) (wr (x3_ + ((x0_ % 2#32).toNat : Int))) (x4_ + 1)
/-- patchbay/patchbayref01.OnesCount -/
def ref01_OnesCount (x0 : BitVec 32) : Int :=
  ref01_OnesCount_L1 (fun (x3_103 : Int) =>
      x3_103) (Int.toNat (32 - 0)) x0 0 0

def ref23_prefixBits_L1 (x0 : api_Program) (x1 : Int) (x2 : api_Entry) (K0 : Unit → Int) : Nat → Int → Int
  | 0, x7_ => K0 ()
  | m + 1, x7_ =>
    if (decide (((ix ((ix x0.Tables x1).Keys) x7_).Kind) = 2)) then
      if (decide ((x2.Keys.length : Int) ≤ x7_)) then
        0
      else
      LET (ref01_OnesCount ((ix x2.Keys x7_).Mask)) fun y121 =>
      y121
    else
    ref23_prefixBits_L1 x0 x1 x2 K0 m (x7_ + 1)
/-- patchbay/patchbayref23.prefixBits -/
def ref23_prefixBits (x0 : api_Program) (x1 : Int) (x2 : api_Entry) : Int :=
  if ((decide (x1 < 0)) || (decide ((x0.Tables.length : Int) ≤ x1))) then
    0
  else
  ref23_prefixBits_L1 x0 x1 x2 (fun (_ : Unit) =>
      0) (Int.toNat ((((ix x0.Tables x1).Keys).length : Int) - 0)) 0

/-- patchbay/patchbayref23.Precedes -/
def ref23_Precedes (x0 : api_Program) (x1 : Int) (x2 : api_Row) (x3 : api_Row) : Bool :=
  LET (ref23_prefixBits x0 x1 x2.Entry) fun y102 =>
  LET (ref23_prefixBits x0 x1 x3.Entry) fun y104 =>
  if (!decide (x2.Entry.Priority = x3.Entry.Priority)) then
    (decide (x3.Entry.Priority < x2.Entry.Priority))
  else
  if (!decide (y102 = y104)) then
    (decide (y104 < y102))
  else
  (decide (x2.ID < x3.ID))

/-- patchbay/patchbaylaw23.EntryPrecedes -/
def law23_EntryPrecedes (x0 : api_Program) (x1 : Int) (x2 : List api_Row) : Bool :=
  LET (law17_Small x0) fun y101 =>
  if (((!y101) || (!(law23_Small ((ix x2 0).Entry)))) || (!(law23_Small ((ix x2 1).Entry)))) then
    LET (law23_works) fun y111 =>
    y111
  else
  LET (entry_Precedes x0 x1 (ix x2 0) (ix x2 1)) fun y114 =>
  LET (ref23_Precedes x0 x1 (ix x2 0) (ix x2 1)) fun y117 =>
  (((decide (y114 = y117)) && (decide ((entry_Precedes x0 x1 (ix x2 1) (ix x2 0)) = (ref23_Precedes x0 x1 (ix x2 1) (ix x2 0))))) && (law23_works))

def ref23_SameKey_L1 (x0 : api_Entry) (x1 : api_Entry) (K0 : Unit → Bool) : Nat → Int → Bool
  | 0, x5_ => K0 ()
  | m + 1, x5_ =>
    if (!decide ((ix x0.Keys x5_) = (ix x1.Keys x5_))) then
      false
    else
    ref23_SameKey_L1 x0 x1 K0 m (x5_ + 1)
/-- patchbay/patchbayref23.SameKey -/
def ref23_SameKey (x0 : api_Entry) (x1 : api_Entry) : Bool :=
  if ((!decide ((x0.Keys.length : Int) = (x1.Keys.length : Int))) || (!decide (x0.Priority = x1.Priority))) then
    false
  else
  ref23_SameKey_L1 x0 x1 (fun (_ : Unit) =>
      true) (Int.toNat ((x0.Keys.length : Int) - 0)) 0

def ref23_EqualCalls_L1 (x0 : api_ActionCall) (x1 : api_ActionCall) (K0 : Unit → Bool) : Nat → Int → Bool
  | 0, x5_ => K0 ()
  | m + 1, x5_ =>
    if (!decide ((ix x0.Args x5_) = (ix x1.Args x5_))) then
      false
    else
    ref23_EqualCalls_L1 x0 x1 K0 m (x5_ + 1)
/-- patchbay/patchbayref23.EqualCalls -/
def ref23_EqualCalls (x0 : api_ActionCall) (x1 : api_ActionCall) : Bool :=
  if ((!decide (x0.Action = x1.Action)) || (!decide ((x0.Args.length : Int) = (x1.Args.length : Int)))) then
    false
  else
  ref23_EqualCalls_L1 x0 x1 (fun (_ : Unit) =>
      true) (Int.toNat ((x0.Args.length : Int) - 0)) 0

/-- patchbay/patchbayref23.Equal -/
def ref23_Equal (x0 : api_Entry) (x1 : api_Entry) : Bool :=
  LET (ref23_SameKey x0 x1) fun y101 =>
  (y101 && (ref23_EqualCalls x0.Call x1.Call))

/-- patchbay/patchbaylaw23.EntryCompares -/
def law23_EntryCompares (x0 : api_Entry) (x1 : api_Entry) : Bool :=
  LET (law23_Small x0) fun y101 =>
  if ((!y101) || (!(law23_Small x1))) then
    LET (law23_works) fun y105 =>
    y105
  else
  LET (entry_SameKey x0 x1) fun y106 =>
  LET (ref23_SameKey x0 x1) fun y107 =>
  (((((((decide (y106 = y107)) && (decide ((entry_Equal x0 x1) = (ref23_Equal x0 x1)))) && (decide ((entry_SameKey x1 x0) = (entry_SameKey x0 x1)))) && (decide ((entry_Equal x1 x0) = (entry_Equal x0 x1)))) && (entry_SameKey x0 x0)) && (entry_Equal x0 x0)) && (law23_works))

def law23_EntryOrder_L1 (x2 : List api_Row) (K0 : Unit → Bool) : Nat → Int → Bool
  | 0, x7_ => K0 ()
  | m + 1, x7_ =>
    LET (law23_Small ((ix x2 x7_).Entry)) fun y108 =>
    if (!y108) then
      LET (law23_works) fun y110 =>
      y110
    else
    law23_EntryOrder_L1 x2 K0 m (x7_ + 1)
def law23_EntryOrder_L2 (x0 : api_Program) (x1 : Int) (x2 : List api_Row) (K2 : Unit → Bool) : Nat → Int → Bool
  | 0, x8_ => K2 ()
  | m + 1, x8_ =>
    LET (entry_Precedes x0 x1 (ix x2 x8_) (ix x2 x8_)) fun y116 =>
    if y116 then
      false
    else
    if ((!decide (((ix x2 x8_).ID) = ((ix x2 (Int.tmod (wr (x8_ + 1)) 3)).ID))) && (decide ((entry_Precedes x0 x1 (ix x2 x8_) (ix x2 (Int.tmod (wr (x8_ + 1)) 3))) = (entry_Precedes x0 x1 (ix x2 (Int.tmod (wr (x8_ + 1)) 3)) (ix x2 x8_))))) then
      false
    else
    LET (entry_Precedes x0 x1 (ix x2 x8_) (ix x2 (Int.tmod (wr (x8_ + 1)) 3))) fun y134 =>
    if ((y134 && (entry_Precedes x0 x1 (ix x2 (Int.tmod (wr (x8_ + 1)) 3)) (ix x2 (Int.tmod (wr (x8_ + 2)) 3)))) && (!(entry_Precedes x0 x1 (ix x2 x8_) (ix x2 (Int.tmod (wr (x8_ + 2)) 3))))) then
      false
    else
    law23_EntryOrder_L2 x0 x1 x2 K2 m (x8_ + 1)
/-- patchbay/patchbaylaw23.EntryOrder -/
def law23_EntryOrder (x0 : api_Program) (x1 : Int) (x2 : List api_Row) : Bool :=
  LET (law17_Small x0) fun y101 =>
  if (!y101) then
    LET (law23_works) fun y103 =>
    y103
  else
  law23_EntryOrder_L1 x2 (fun (_ : Unit) =>
      law23_EntryOrder_L2 x0 x1 x2 (fun (_ : Unit) =>
          LET (law23_works) fun y141 =>
          y141) (Int.toNat (3 - 0)) 0) (Int.toNat (3 - 0)) 0

def law23_EntryExact_L1 (x0 : api_Program) (x1 : Int) (K4 : Unit → Bool) : Nat → Int → Bool
  | 0, x12_ => K4 ()
  | m + 1, x12_ =>
    if (!decide (((ix ((ix x0.Tables x1).Keys) x12_).Kind) = 1)) then
      LET (law23_works) fun y172 =>
      y172
    else
    law23_EntryExact_L1 x0 x1 K4 m (x12_ + 1)
def law23_EntryExact_L3 (x2 : law23_Pair) (x9_ : Int) (K2 : Unit → Bool) : Nat → Int → Bool
  | 0, x10_ => K2 ()
  | m + 1, x10_ =>
    LET (entry_Matches x2.A (x2.Key.set (x9_).toNat ((ix x2.Key x9_) ^^^ (1#32 <<< x10_.toNat)))) fun y200 =>
    if (!decide (y200 = (decide (((((ix x2.A.Keys x9_).Mask) >>> x10_.toNat) % 2#32) = 0#32)))) then
      false
    else
    law23_EntryExact_L3 x2 x9_ K2 m (x10_ + 1)
def law23_EntryExact_L2 (x2 : law23_Pair) (K0 : Unit → Bool) : Nat → Int → Bool
  | 0, x9_ => K0 ()
  | m + 1, x9_ =>
    law23_EntryExact_L3 x2 x9_ (fun (_ : Unit) =>
        law23_EntryExact_L2 x2 K0 m (x9_ + 1)) (Int.toNat (32 - 0)) 0
/-- patchbay/patchbaylaw23.EntryExact -/
def law23_EntryExact (x0 : api_Program) (x1 : Int) (x2 : law23_Pair) : Bool :=
  LET (law17_Small x0) fun y109 =>
  if ((((!y109) || (!(law23_Small x2.A))) || (!(law23_Small x2.B))) || (decide (10 < (x2.Key.length : Int)))) then
    LET (law23_works) fun y117 =>
    y117
  else
  LET (entry_Matches x2.A x2.Key) fun y119 =>
  if (y119 && (!decide ((x2.Key.length : Int) = (x2.A.Keys.length : Int)))) then
    false
  else
  LET (entry_Matches x2.A x2.Key) fun y125 =>
  LET (fun (_ : Unit) =>
    if ((((decide (x1 < 0)) || (decide ((x0.Tables.length : Int) ≤ x1))) || (!decide ((entry_Check x0 x1 x2.A) = 0))) || (!decide ((entry_Check x0 x1 x2.B) = 0))) then
      LET (law23_works) fun y158 =>
      y158
    else
    law23_EntryExact_L1 x0 x1 (fun (_ : Unit) =>
        LET (entry_Matches x2.A x2.Key) fun y175 =>
        if ((y175 && (entry_Matches x2.B x2.Key)) && (!(entry_SameKey x2.A x2.B))) then
          false
        else
        LET (law23_works) fun y182 =>
        y182) (Int.toNat ((((ix x0.Tables x1).Keys).length : Int) - 0)) 0) fun k150 =>
  if y125 then
    law23_EntryExact_L2 x2 (fun (_ : Unit) =>
        k150 ()) (Int.toNat ((x2.Key.length : Int) - 0)) 0
  else
  k150 ()

end Go.Proofs.Ytklfdkbemkommaa
