/-
  Each function of this seat as a plain program.
-/
import Derived.Test.YtepkgeppmjmkjaaGreatKTy
import Derived.Test.YtepkgeppmjmkjaaGreatPbC
set_option linter.unusedVariables false
set_option linter.unusedSimpArgs false
set_option maxRecDepth 100000
namespace Go.Proofs.YtepkgeppmjmkjaaGreat
open Go Go.Pb Go.RowKit
def law21_nodes_L1 (x0 : List api_ControlNode) (x1 : Int) (rec_ : (List api_ControlNode) → Int → Int) (K0 : Int → Int) : Nat → Int → Int → Int
  | 0, x5_, x6_ => K0 x5_
  | m + 1, x5_, x6_ =>
    if ((decide (x6_ < (x0.length : Int))) && (decide (x5_ < 100))) then
      if ((decide (x1 = 0)) || (decide (40 < (((ix x0 x6_).Cond).length : Int)))) then
        100
      else
      LET (rec_ ((ix x0 x6_).Then) (wr (x1 - 1))) fun y111 =>
      LET (rec_ ((ix x0 x6_).Else) (wr (x1 - 1))) fun y114 =>
      law21_nodes_L1 x0 x1 rec_ K0 m (wr ((wr (x5_ + y111)) + y114)) (x6_ + 1)
    else
    K0 x5_
/-- patchbay/patchbaylaw21.nodes -/
def law21_nodes_B (rec_ : (List api_ControlNode) → Int → Int) (x0 : List api_ControlNode) (x1 : Int) : Int :=
  law21_nodes_L1 x0 x1 rec_ (fun (x5_115 : Int) =>
      x5_115) (Int.toNat ((x0.length : Int) - 0)) (x0.length : Int) 0
def law21_nodes_R : Nat → (List api_ControlNode) → Int → Int
  | 0, _, _ => default
  | n_ + 1, x0, x1 => law21_nodes_B (law21_nodes_R n_) x0 x1
def law21_nodes (x0 : List api_ControlNode) (x1 : Int) : Int := law21_nodes_R (x1.toNat + 1) x0 x1

def ref11_Small_L1 (x0 : api_Header) (K0 : Unit → Bool) : Nat → Int → Bool
  | 0, x3_ => K0 ()
  | m + 1, x3_ =>
    if (decide (30 < (((ix x0.Fields x3_).Name).length : Int))) then
      false
    else
    ref11_Small_L1 x0 K0 m (x3_ + 1)
/-- patchbay/patchbayref11.Small -/
def ref11_Small (x0 : api_Header) : Bool :=
  if ((decide (30 < (x0.Name.length : Int))) || (decide (20 < (x0.Fields.length : Int)))) then
    false
  else
  ref11_Small_L1 x0 (fun (_ : Unit) =>
      true) (Int.toNat ((x0.Fields.length : Int) - 0)) 0

def law21_largeAction_L1 (x0 : api_Action) (K0 : Unit → Bool) : Nat → Int → Bool
  | 0, x3_ => K0 ()
  | m + 1, x3_ =>
    if ((decide (40 < (((ix x0.Body x3_).Index).length : Int))) || (decide (40 < (((ix x0.Body x3_).Value).length : Int)))) then
      true
    else
    law21_largeAction_L1 x0 K0 m (x3_ + 1)
/-- patchbay/patchbaylaw21.largeAction -/
def law21_largeAction (x0 : api_Action) : Bool :=
  if (((decide (8 < (x0.Params.length : Int))) || (decide (16 < (x0.Body.length : Int)))) || (decide (60 < (x0.Name.length : Int)))) then
    true
  else
  law21_largeAction_L1 x0 (fun (_ : Unit) =>
      false) (Int.toNat ((x0.Body.length : Int) - 0)) 0

/-- patchbay/patchbaylaw21.largeState -/
def law21_largeState (x0 : api_ParserState) : Bool :=
  (((decide (8 < (x0.Extract.length : Int))) || (decide (12 < (x0.Cases.length : Int)))) || (decide (60 < (x0.Name.length : Int))))

def law21_TooLarge_L1 (x0 : api_Program) (K0 : Unit → Bool) : Nat → Int → Bool
  | 0, x3_ => K0 ()
  | m + 1, x3_ =>
    LET (ref11_Small (ix x0.Headers x3_)) fun y125 =>
    if (!y125) then
      true
    else
    law21_TooLarge_L1 x0 K0 m (x3_ + 1)
def law21_TooLarge_L2 (x0 : api_Program) (K2 : Unit → Bool) : Nat → Int → Bool
  | 0, x4_ => K2 ()
  | m + 1, x4_ =>
    LET (law21_largeAction (ix x0.Actions x4_)) fun y134 =>
    if y134 then
      true
    else
    law21_TooLarge_L2 x0 K2 m (x4_ + 1)
def law21_TooLarge_L3 (x0 : api_Program) (K4 : Unit → Bool) : Nat → Int → Bool
  | 0, x5_ => K4 ()
  | m + 1, x5_ =>
    if ((((decide (10 < (((ix x0.Tables x5_).Keys).length : Int))) || (decide (24 < (((ix x0.Tables x5_).Actions).length : Int)))) || (decide (8 < ((((ix x0.Tables x5_).Default).Args).length : Int)))) || (decide (60 < (((ix x0.Tables x5_).Name).length : Int)))) then
      true
    else
    law21_TooLarge_L3 x0 K4 m (x5_ + 1)
def law21_TooLarge_L4 (x0 : api_Program) (K6 : Unit → Bool) : Nat → Int → Bool
  | 0, x6_ => K6 ()
  | m + 1, x6_ =>
    LET (law21_largeState (ix x0.States x6_)) fun y164 =>
    if y164 then
      true
    else
    law21_TooLarge_L4 x0 K6 m (x6_ + 1)
/-- patchbay/patchbaylaw21.TooLarge -/
def law21_TooLarge (x0 : api_Program) : Bool :=
  if (((((((((decide (60 < (x0.Name.length : Int))) || (decide (16 < (x0.Headers.length : Int)))) || (decide (20 < (x0.Metadata.length : Int)))) || (decide (8 < (x0.Registers.length : Int)))) || (decide (24 < (x0.Actions.length : Int)))) || (decide (16 < (x0.Tables.length : Int)))) || (decide (16 < (x0.States.length : Int)))) || (decide (16 < (x0.Deparser.length : Int)))) || (decide (60 < (law21_nodes x0.Control 10)))) then
    true
  else
  law21_TooLarge_L1 x0 (fun (_ : Unit) =>
      law21_TooLarge_L2 x0 (fun (_ : Unit) =>
          law21_TooLarge_L3 x0 (fun (_ : Unit) =>
              law21_TooLarge_L4 x0 (fun (_ : Unit) =>
                  false) (Int.toNat ((x0.States.length : Int) - 0)) 0) (Int.toNat ((x0.Tables.length : Int) - 0)) 0) (Int.toNat ((x0.Actions.length : Int) - 0)) 0) (Int.toNat ((x0.Headers.length : Int) - 0)) 0

def law31_works : Bool := true

def access_counts_L1 (x0 : api_Program) (K0 : (List Int) → (List Int)) : Nat → Int → (List Int) → (List Int)
  | 0, x19_, zE108 => K0 zE108
  | m + 1, x19_, zE108 =>
    access_counts_L1 x0 K0 m (x19_ + 1) (zE108.set (0 : Int).toNat (wr ((ix zE108 (0 : Int)) + (((ix x0.Headers x19_).Fields).length : Int))))
/-- patchbay/access.counts -/
def access_counts (x0 : api_Program) : (List Int) :=
  access_counts_L1 x0 (fun (zE108_123 : List Int) =>
      zE108_123) (Int.toNat ((x0.Headers.length : Int) - 0)) 0 ([0, (x0.Headers.length : Int), (x0.Metadata.length : Int), (x0.Registers.length : Int)] : List Int)

def access_first_L1 (x1 : Int) (y101 : (List Int)) (K0 : Int → Int) : Nat → Int → Int → Int
  | 0, x5_, x10_ => K0 x5_
  | m + 1, x5_, x10_ =>
    if (decide (x10_ < x1)) then
      access_first_L1 x1 y101 K0 m (wr (x5_ + (ix y101 x10_))) (x10_ + 1)
    else
    access_first_L1 x1 y101 K0 m x5_ (x10_ + 1)
/-- patchbay/access.first -/
def access_first (x0 : api_Program) (x1 : Int) : Int :=
  LET (access_counts x0) fun y101 =>
  access_first_L1 x1 y101 (fun (x5_107 : Int) =>
      x5_107) (Int.toNat (4 - 0)) 0 0

/-- patchbay/access.Cells -/
def access_Cells (x0 : api_Program) : Int :=
  LET (access_first x0 4) fun y101 =>
  y101

def ref31_fields_L1 (x0 : api_Program) (K0 : Int → Int) : Nat → Int → Int → Int
  | 0, x5_, x6_ => K0 x5_
  | m + 1, x5_, x6_ =>
    ref31_fields_L1 x0 K0 m (wr (x5_ + (((ix x0.Headers x6_).Fields).length : Int))) (x6_ + 1)
/-- patchbay/patchbayref31.fields -/
def ref31_fields (x0 : api_Program) (x1 : Int) : Int :=
  ref31_fields_L1 x0 (fun (x5_106 : Int) =>
      x5_106) (Int.toNat (x1 - 0)) 0 0

/-- patchbay/patchbayref31.Cells -/
def ref31_Cells (x0 : api_Program) : Int :=
  LET (ref31_fields x0 (x0.Headers.length : Int)) fun y102 =>
  (wr ((wr ((wr (y102 + (x0.Headers.length : Int))) + (x0.Metadata.length : Int))) + (x0.Registers.length : Int)))

/-- patchbay/access.cell -/
def access_cell (x0 : api_Program) (x1 : Int) (x2 : Int) : Int :=
  if ((decide (x2 < 0)) || (decide ((ix (access_counts x0) x1) ≤ x2))) then
    (-1)
  else
  LET (access_first x0 x1) fun y106 =>
  (wr (y106 + x2))

def access_FieldCell_L1 (x0 : api_Program) (x1 : api_FieldRef) (K0 : Int → Int) : Nat → Int → Int → Int
  | 0, x5_, x52_ => K0 x5_
  | m + 1, x5_, x52_ =>
    access_FieldCell_L1 x0 x1 K0 m (wr (x5_ + (((ix (sub x0.Headers 0 x1.Header) x52_).Fields).length : Int))) (x52_ + 1)
/-- patchbay/access.FieldCell -/
def access_FieldCell (x0 : api_Program) (x1 : api_FieldRef) : Int :=
  if (decide (x1.Header = (-1))) then
    LET (access_cell x0 2 x1.Field) fun y102 =>
    y102
  else
  if ((((decide (x1.Header < 0)) || (decide ((x0.Headers.length : Int) ≤ x1.Header))) || (decide (x1.Field < 0))) || (decide ((((ix x0.Headers x1.Header).Fields).length : Int) ≤ x1.Field))) then
    (-1)
  else
  access_FieldCell_L1 x0 x1 (fun (x5_120 : Int) =>
      x5_120) (Int.toNat (((sub x0.Headers 0 x1.Header).length : Int) - 0)) x1.Field 0

/-- patchbay/patchbayref31.FieldCell -/
def ref31_FieldCell (x0 : api_Program) (x1 : api_FieldRef) : Int :=
  if (((decide (x1.Header = (-1))) && (decide (0 ≤ x1.Field))) && (decide (x1.Field < (x0.Metadata.length : Int)))) then
    LET (ref31_fields x0 (x0.Headers.length : Int)) fun y106 =>
    (wr ((wr (y106 + (x0.Headers.length : Int))) + x1.Field))
  else
  if ((((decide (x1.Header < 0)) || (decide ((x0.Headers.length : Int) ≤ x1.Header))) || (decide (x1.Field < 0))) || (decide ((((ix x0.Headers x1.Header).Fields).length : Int) ≤ x1.Field))) then
    (-1)
  else
  LET (ref31_fields x0 x1.Header) fun y116 =>
  (wr (y116 + x1.Field))

/-- patchbay/access.ValidCell -/
def access_ValidCell (x0 : api_Program) (x1 : Int) : Int :=
  LET (access_cell x0 1 x1) fun y101 =>
  y101

/-- patchbay/patchbayref31.ValidCell -/
def ref31_ValidCell (x0 : api_Program) (x1 : Int) : Int :=
  if ((decide (x1 < 0)) || (decide ((x0.Headers.length : Int) ≤ x1))) then
    (-1)
  else
  LET (ref31_fields x0 (x0.Headers.length : Int)) fun y105 =>
  (wr (y105 + x1))

/-- patchbay/access.RegisterCell -/
def access_RegisterCell (x0 : api_Program) (x1 : Int) : Int :=
  LET (access_cell x0 3 x1) fun y101 =>
  y101

/-- patchbay/patchbayref31.RegisterCell -/
def ref31_RegisterCell (x0 : api_Program) (x1 : Int) : Int :=
  if ((decide (x1 < 0)) || (decide ((x0.Registers.length : Int) ≤ x1))) then
    (-1)
  else
  LET (ref31_fields x0 (x0.Headers.length : Int)) fun y105 =>
  (wr ((wr ((wr (y105 + (x0.Headers.length : Int))) + (x0.Metadata.length : Int))) + x1))

/-- patchbay/env.at[patchbay/api.Header] -/
def env_at_api_Header (x0 : List api_Header) (x1 : Int) : api_Header :=
  if ((decide (x1 < 0)) || (decide ((x0.length : Int) ≤ x1))) then
    ({ Name := ([] : List UInt8), Fields := ([] : List api_Field) } : api_Header)
  else
  (ix x0 x1)

/-- patchbay/env.fields -/
def env_fields (x0 : api_Program) (x1 : Int) : (List api_Field) :=
  if (decide (x1 = (-1))) then
    x0.Metadata
  else
  LET (env_at_api_Header x0.Headers x1) fun y104 =>
  y104.Fields

/-- patchbay/env.at[patchbay/api.Field] -/
def env_at_api_Field (x0 : List api_Field) (x1 : Int) : api_Field :=
  if ((decide (x1 < 0)) || (decide ((x0.length : Int) ≤ x1))) then
    ({ Name := ([] : List UInt8), Width := 0 } : api_Field)
  else
  (ix x0 x1)

def bitvec_valid_L1 (x0 : List Int) (K0 : Unit → Bool) : Nat → Int → Bool
  | 0, x7_ => K0 ()
  | m + 1, x7_ =>
    if ((decide ((ix x0 x7_) < 1)) || (decide (32 < (ix x0 x7_)))) then
      false
    else
    bitvec_valid_L1 x0 K0 m (x7_ + 1)
/-- patchbay/bitvec.valid -/
def bitvec_valid (x0 : List Int) : Bool :=
  bitvec_valid_L1 x0 (fun (_ : Unit) =>
      true) (Int.toNat ((x0.length : Int) - 0)) 0

/-- patchbay/bitvec.Mask -/
def bitvec_Mask (x0 : Int) : (BitVec 32) :=
  LET (bitvec_valid ([x0] : List Int)) fun y102 =>
  if (!y102) then
    0#32
  else
  (4294967295#32 >>> (wr (32 - x0)).toNat)

/-- patchbay/env.Width -/
def env_Width (x0 : api_Program) (x1 : api_FieldRef) : Int :=
  LET (env_fields x0 x1.Header) fun y101 =>
  LET (env_at_api_Field y101 x1.Field) fun y103 =>
  LET (bitvec_Mask y103.Width) fun y105 =>
  if (decide (y105 = 0#32)) then
    0
  else
  y103.Width

def access_CellWidth_L1 (x0 : api_Program) (K0 : Unit → Int) : Nat → Int → Int → Int
  | 0, x1_, x33_ => K0 ()
  | m + 1, x1_, x33_ =>
    if (decide (x1_ < (((ix x0.Headers x33_).Fields).length : Int))) then
      LET (env_Width x0 ({ Header := x33_, Field := x1_ } : api_FieldRef)) fun y119 =>
      y119
    else
    access_CellWidth_L1 x0 K0 m (wr (x1_ - (((ix x0.Headers x33_).Fields).length : Int))) (x33_ + 1)
/-- patchbay/access.CellWidth -/
def access_CellWidth (x0 : api_Program) (x1 : Int) : Int :=
  if ((decide (x1 < 0)) || (decide ((access_first x0 3) ≤ x1))) then
    0
  else
  LET (access_first x0 2) fun y104 =>
  if (decide (y104 ≤ x1)) then
    LET (access_first x0 2) fun y106 =>
    LET (env_Width x0 ({ Header := (-1), Field := (wr (x1 - y106)) } : api_FieldRef)) fun y107 =>
    y107
  else
  LET (access_first x0 1) fun y108 =>
  if (decide (y108 ≤ x1)) then
    1
  else
  access_CellWidth_L1 x0 (fun (_ : Unit) =>
      0) (Int.toNat ((x0.Headers.length : Int) - 0)) x1 0

/-- patchbay/patchbayref12.Width -/
def ref12_Width (x0 : api_Program) (x1 : api_FieldRef) : Int :=
  LET (fun (x5_108 : List api_Field) =>
    if (((((decide (x1.Header < (-1))) || (decide (x1.Field < 0))) || (decide ((x5_108.length : Int) ≤ x1.Field))) || (decide (((ix x5_108 x1.Field).Width) < 1))) || (decide (32 < ((ix x5_108 x1.Field).Width)))) then
      0
    else
    (ix x5_108 x1.Field).Width) fun k108 =>
  if (decide (0 ≤ x1.Header)) then
    if (decide ((x0.Headers.length : Int) ≤ x1.Header)) then
      0
    else
    k108 ((ix x0.Headers x1.Header).Fields)
  else
  k108 x0.Metadata

def ref31_CellWidth_L2 (x0 : api_Program) (x1 : Int) (x5_ : Int) (K2 : Unit → Int) : Nat → Int → Int
  | 0, x6_ => K2 ()
  | m + 1, x6_ =>
    LET (ref31_FieldCell x0 ({ Header := x5_, Field := x6_ } : api_FieldRef)) fun y118 =>
    if (decide (x1 = y118)) then
      LET (ref12_Width x0 ({ Header := x5_, Field := x6_ } : api_FieldRef)) fun y120 =>
      y120
    else
    ref31_CellWidth_L2 x0 x1 x5_ K2 m (x6_ + 1)
def ref31_CellWidth_L1 (x0 : api_Program) (x1 : Int) (K0 : Unit → Int) : Nat → Int → Int
  | 0, x5_ => K0 ()
  | m + 1, x5_ =>
    LET (ref31_ValidCell x0 x5_) fun y105 =>
    if (decide (x1 = y105)) then
      1
    else
    ref31_CellWidth_L2 x0 x1 x5_ (fun (_ : Unit) =>
        ref31_CellWidth_L1 x0 x1 K0 m (x5_ + 1)) (Int.toNat ((((ix x0.Headers x5_).Fields).length : Int) - 0)) 0
def ref31_CellWidth_L3 (x0 : api_Program) (x1 : Int) (K4 : Unit → Int) : Nat → Int → Int
  | 0, x8_ => K4 ()
  | m + 1, x8_ =>
    LET (ref31_FieldCell x0 ({ Header := (-1), Field := x8_ } : api_FieldRef)) fun y130 =>
    if (decide (x1 = y130)) then
      LET (ref12_Width x0 ({ Header := (-1), Field := x8_ } : api_FieldRef)) fun y132 =>
      y132
    else
    ref31_CellWidth_L3 x0 x1 K4 m (x8_ + 1)
/-- patchbay/patchbayref31.CellWidth -/
def ref31_CellWidth (x0 : api_Program) (x1 : Int) : Int :=
  ref31_CellWidth_L1 x0 x1 (fun (_ : Unit) =>
      ref31_CellWidth_L3 x0 x1 (fun (_ : Unit) =>
          0) (Int.toNat ((x0.Metadata.length : Int) - 0)) 0) (Int.toNat ((x0.Headers.length : Int) - 0)) 0

/-- patchbay/patchbaylaw31.AccessCells -/
def law31_AccessCells (x0 : api_Program) (x1 : law31_Query) : Bool :=
  LET (law21_TooLarge x0) fun y101 =>
  if y101 then
    LET (law31_works) fun y103 =>
    y103
  else
  LET (access_Cells x0) fun y104 =>
  LET (ref31_Cells x0) fun y105 =>
  ((((((decide (y104 = y105)) && (decide ((access_FieldCell x0 x1.Ref) = (ref31_FieldCell x0 x1.Ref)))) && (decide ((access_ValidCell x0 x1.N) = (ref31_ValidCell x0 x1.N)))) && (decide ((access_RegisterCell x0 x1.N) = (ref31_RegisterCell x0 x1.N)))) && (decide ((access_CellWidth x0 x1.N) = (ref31_CellWidth x0 x1.N)))) && (law31_works))

end Go.Proofs.YtepkgeppmjmkjaaGreat
