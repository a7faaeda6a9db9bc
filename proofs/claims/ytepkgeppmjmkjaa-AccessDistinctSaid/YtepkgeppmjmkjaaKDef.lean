/-
  Each function of this seat as a plain program.
-/
import Derived.Test.YtepkgeppmjmkjaaKTy
import Derived.Test.YtepkgeppmjmkjaaPbC
set_option linter.unusedVariables false
set_option linter.unusedSimpArgs false
set_option maxRecDepth 100000
namespace Go.Proofs.Ytepkgeppmjmkjaa
open Go Go.Pb Go.RowKit
def law21_nodes_L1 (x0 : List api_ControlNode) (x1 : Int) (rec_ : (List api_ControlNode) → Int → Int) (K0 : Int → Int) : Nat → Int → Int → Int
  | 0, x5_, x6_ => K0 x5_
  | m + 1, x5_, x6_ =>
    if ((decide (x6_ < (x0.length : Int))) && (decide (x5_ < 100))) then
      if ((decide (x1 = 0)) || (decide (40 < (((ix x0 x6_).Cond).length : Int)))) then
        100
      else
      LET (rec_ ((ix x0 x6_).Then) (wr (x1 - 1))) fun y111 =>
      LET (rec_ ((ix x0 x6_).Else) (wr (x1 - 1))) fun y114 =>
      law21_nodes_L1 x0 x1 rec_ K0 m (wr ((wr (x5_ + y111)) + y114)) (x6_ + 1)
    else
    K0 x5_
/-- patchbay/patchbaylaw21.nodes -/
def law21_nodes_B (rec_ : (List api_ControlNode) → Int → Int) (x0 : List api_ControlNode) (x1 : Int) : Int :=
  law21_nodes_L1 x0 x1 rec_ (fun (x5_115 : Int) =>
      x5_115) (Int.toNat ((x0.length : Int) - 0)) (x0.length : Int) 0
def law21_nodes_R : Nat → (List api_ControlNode) → Int → Int
  | 0, _, _ => default
  | n_ + 1, x0, x1 => law21_nodes_B (law21_nodes_R n_) x0 x1
def law21_nodes (x0 : List api_ControlNode) (x1 : Int) : Int := law21_nodes_R (x1.toNat + 1) x0 x1

def ref11_Small_L1 (x0 : api_Header) (K0 : Unit → Bool) : Nat → Int → Bool
  | 0, x3_ => K0 ()
  | m + 1, x3_ =>
    if (decide (30 < (((ix x0.Fields x3_).Name).length : Int))) then
      false
    else
    ref11_Small_L1 x0 K0 m (x3_ + 1)
/-- patchbay/patchbayref11.Small -/
def ref11_Small (x0 : api_Header) : Bool :=
  if ((decide (30 < (x0.Name.length : Int))) || (decide (20 < (x0.Fields.length : Int)))) then
    false
  else
  ref11_Small_L1 x0 (fun (_ : Unit) =>
      true) (Int.toNat ((x0.Fields.length : Int) - 0)) 0

def law21_largeAction_L1 (x0 : api_Action) (K0 : Unit → Bool) : Nat → Int → Bool
  | 0, x3_ => K0 ()
  | m + 1, x3_ =>
    if ((decide (40 < (((ix x0.Body x3_).Index).length : Int))) || (decide (40 < (((ix x0.Body x3_).Value).length : Int)))) then
      true
    else
    law21_largeAction_L1 x0 K0 m (x3_ + 1)
/-- patchbay/patchbaylaw21.largeAction -/
def law21_largeAction (x0 : api_Action) : Bool :=
  if (((decide (8 < (x0.Params.length : Int))) || (decide (16 < (x0.Body.length : Int)))) || (decide (60 < (x0.Name.length : Int)))) then
    true
  else
  law21_largeAction_L1 x0 (fun (_ : Unit) =>
      false) (Int.toNat ((x0.Body.length : Int) - 0)) 0

/-- patchbay/patchbaylaw21.largeState -/
def law21_largeState (x0 : api_ParserState) : Bool :=
  (((decide (8 < (x0.Extract.length : Int))) || (decide (12 < (x0.Cases.length : Int)))) || (decide (60 < (x0.Name.length : Int))))

def law21_TooLarge_L1 (x0 : api_Program) (K0 : Unit → Bool) : Nat → Int → Bool
  | 0, x3_ => K0 ()
  | m + 1, x3_ =>
    LET (ref11_Small (ix x0.Headers x3_)) fun y125 =>
    if (!y125) then
      true
    else
    law21_TooLarge_L1 x0 K0 m (x3_ + 1)
def law21_TooLarge_L2 (x0 : api_Program) (K2 : Unit → Bool) : Nat → Int → Bool
  | 0, x4_ => K2 ()
  | m + 1, x4_ =>
    LET (law21_largeAction (ix x0.Actions x4_)) fun y134 =>
    if y134 then
      true
    else
    law21_TooLarge_L2 x0 K2 m (x4_ + 1)
def law21_TooLarge_L3 (x0 : api_Program) (K4 : Unit → Bool) : Nat → Int → Bool
  | 0, x5_ => K4 ()
  | m + 1, x5_ =>
    if ((((decide (10 < (((ix x0.Tables x5_).Keys).length : Int))) || (decide (24 < (((ix x0.Tables x5_).Actions).length : Int)))) || (decide (8 < ((((ix x0.Tables x5_).Default).Args).length : Int)))) || (decide (60 < (((ix x0.Tables x5_).Name).length : Int)))) then
      true
    else
    law21_TooLarge_L3 x0 K4 m (x5_ + 1)
def law21_TooLarge_L4 (x0 : api_Program) (K6 : Unit → Bool) : Nat → Int → Bool
  | 0, x6_ => K6 ()
  | m + 1, x6_ =>
    LET (law21_largeState (ix x0.States x6_)) fun y164 =>
    if y164 then
      true
    else
    law21_TooLarge_L4 x0 K6 m (x6_ + 1)
/-- patchbay/patchbaylaw21.TooLarge -/
def law21_TooLarge (x0 : api_Program) : Bool :=
  if (((((((((decide (60 < (x0.Name.length : Int))) || (decide (16 < (x0.Headers.length : Int)))) || (decide (20 < (x0.Metadata.length : Int)))) || (decide (8 < (x0.Registers.length : Int)))) || (decide (24 < (x0.Actions.length : Int)))) || (decide (16 < (x0.Tables.length : Int)))) || (decide (16 < (x0.States.length : Int)))) || (decide (16 < (x0.Deparser.length : Int)))) || (decide (60 < (law21_nodes x0.Control 10)))) then
    true
  else
  law21_TooLarge_L1 x0 (fun (_ : Unit) =>
      law21_TooLarge_L2 x0 (fun (_ : Unit) =>
          law21_TooLarge_L3 x0 (fun (_ : Unit) =>
              law21_TooLarge_L4 x0 (fun (_ : Unit) =>
                  false) (Int.toNat ((x0.States.length : Int) - 0)) 0) (Int.toNat ((x0.Tables.length : Int) - 0)) 0) (Int.toNat ((x0.Actions.length : Int) - 0)) 0) (Int.toNat ((x0.Headers.length : Int) - 0)) 0

def law31_works : Bool := true

def access_counts_L1 (x0 : api_Program) (K0 : (List Int) → (List Int)) : Nat → Int → (List Int) → (List Int)
  | 0, x19_, zE108 => K0 zE108
  | m + 1, x19_, zE108 =>
    access_counts_L1 x0 K0 m (x19_ + 1) (zE108.set (0 : Int).toNat (wr ((ix zE108 (0 : Int)) + (((ix x0.Headers x19_).Fields).length : Int))))
/-- patchbay/access.counts -/
def access_counts (x0 : api_Program) : (List Int) :=
  access_counts_L1 x0 (fun (zE108_123 : List Int) =>
      zE108_123) (Int.toNat ((x0.Headers.length : Int) - 0)) 0 ([0, (x0.Headers.length : Int), (x0.Metadata.length : Int), (x0.Registers.length : Int)] : List Int)

def access_first_L1 (x1 : Int) (y101 : (List Int)) (K0 : Int → Int) : Nat → Int → Int → Int
  | 0, x5_, x10_ => K0 x5_
  | m + 1, x5_, x10_ =>
    if (decide (x10_ < x1)) then
      access_first_L1 x1 y101 K0 m (wr (x5_ + (ix y101 x10_))) (x10_ + 1)
    else
    access_first_L1 x1 y101 K0 m x5_ (x10_ + 1)
/-- patchbay/access.first -/
def access_first (x0 : api_Program) (x1 : Int) : Int :=
  LET (access_counts x0) fun y101 =>
  access_first_L1 x1 y101 (fun (x5_107 : Int) =>
      x5_107) (Int.toNat (4 - 0)) 0 0

/-- patchbay/access.cell -/
def access_cell (x0 : api_Program) (x1 : Int) (x2 : Int) : Int :=
  if ((decide (x2 < 0)) || (decide ((ix (access_counts x0) x1) ≤ x2))) then
    (-1)
  else
  LET (access_first x0 x1) fun y106 =>
  (wr (y106 + x2))

/-- patchbay/access.ValidCell -/
def access_ValidCell (x0 : api_Program) (x1 : Int) : Int :=
  LET (access_cell x0 1 x1) fun y101 =>
  y101

def access_FieldCell_L1 (x0 : api_Program) (x1 : api_FieldRef) (K0 : Int → Int) : Nat → Int → Int → Int
  | 0, x5_, x52_ => K0 x5_
  | m + 1, x5_, x52_ =>
    access_FieldCell_L1 x0 x1 K0 m (wr (x5_ + (((ix (sub x0.Headers 0 x1.Header) x52_).Fields).length : Int))) (x52_ + 1)
/-- patchbay/access.FieldCell -/
def access_FieldCell (x0 : api_Program) (x1 : api_FieldRef) : Int :=
  if (decide (x1.Header = (-1))) then
    LET (access_cell x0 2 x1.Field) fun y102 =>
    y102
  else
  if ((((decide (x1.Header < 0)) || (decide ((x0.Headers.length : Int) ≤ x1.Header))) || (decide (x1.Field < 0))) || (decide ((((ix x0.Headers x1.Header).Fields).length : Int) ≤ x1.Field))) then
    (-1)
  else
  access_FieldCell_L1 x0 x1 (fun (x5_120 : Int) =>
      x5_120) (Int.toNat (((sub x0.Headers 0 x1.Header).length : Int) - 0)) x1.Field 0

/-- patchbay/access.RegisterCell -/
def access_RegisterCell (x0 : api_Program) (x1 : Int) : Int :=
  LET (access_cell x0 3 x1) fun y101 =>
  y101

/-- patchbay/access.Cells -/
def access_Cells (x0 : api_Program) : Int :=
  LET (access_first x0 4) fun y101 =>
  y101

def law31_AccessDistinct_L2 (x0 : api_Program) (x4_ : Int) (K2 : (List Int) → Bool) : Nat → Int → (List Int) → Bool
  | 0, x5_, zE105n2 => K2 zE105n2
  | m + 1, x5_, zE105n2 =>
    LET (access_FieldCell x0 ({ Header := x4_, Field := x5_ } : api_FieldRef)) fun y121 =>
    law31_AccessDistinct_L2 x0 x4_ K2 m (x5_ + 1) (zE105n2 ++ ([y121] : List Int))
def law31_AccessDistinct_L1 (x0 : api_Program) (K0 : (List Int) → Bool) : Nat → Int → (List Int) → Bool
  | 0, x4_, zE105 => K0 zE105
  | m + 1, x4_, zE105 =>
    LET (access_ValidCell x0 x4_) fun y110 =>
    law31_AccessDistinct_L2 x0 x4_ (fun (zE105n2_124 : List Int) =>
        law31_AccessDistinct_L1 x0 K0 m (x4_ + 1) zE105n2_124) (Int.toNat ((((ix x0.Headers x4_).Fields).length : Int) - 0)) 0 (zE105 ++ ([y110] : List Int))
def law31_AccessDistinct_L3 (x0 : api_Program) (K4 : (List Int) → Bool) : Nat → Int → (List Int) → Bool
  | 0, x6_, zE105 => K4 zE105
  | m + 1, x6_, zE105 =>
    LET (access_FieldCell x0 ({ Header := (-1), Field := x6_ } : api_FieldRef)) fun y130 =>
    law31_AccessDistinct_L3 x0 K4 m (x6_ + 1) (zE105 ++ ([y130] : List Int))
def law31_AccessDistinct_L4 (x0 : api_Program) (K6 : (List Int) → Bool) : Nat → Int → (List Int) → Bool
  | 0, x7_, zE105 => K6 zE105
  | m + 1, x7_, zE105 =>
    LET (access_RegisterCell x0 x7_) fun y138 =>
    law31_AccessDistinct_L4 x0 K6 m (x7_ + 1) (zE105 ++ ([y138] : List Int))
def law31_AccessDistinct_L5 (zE105_141 : List Int) (y142 : Int) (K8 : (List Bool) → Bool) : Nat → Int → (List Bool) → Bool
  | 0, x10_, zE145 => K8 zE145
  | m + 1, x10_, zE145 =>
    if (((decide ((ix zE105_141 x10_) < 0)) || (decide (y142 ≤ (ix zE105_141 x10_)))) || (ix zE145 (ix zE105_141 x10_))) then
      false
    else
    law31_AccessDistinct_L5 zE105_141 y142 K8 m (x10_ + 1) (zE145.set ((ix zE105_141 x10_)).toNat true)
/-- patchbay/patchbaylaw31.AccessDistinct -/
def law31_AccessDistinct (x0 : api_Program) : Bool :=
  LET (law21_TooLarge x0) fun y101 =>
  if y101 then
    LET (law31_works) fun y103 =>
    y103
  else
  law31_AccessDistinct_L1 x0 (fun (zE105_125 : List Int) =>
      law31_AccessDistinct_L3 x0 (fun (zE105_133 : List Int) =>
          law31_AccessDistinct_L4 x0 (fun (zE105_141 : List Int) =>
              LET (access_Cells x0) fun y142 =>
              if (!decide ((zE105_141.length : Int) = y142)) then
                false
              else
              law31_AccessDistinct_L5 zE105_141 y142 (fun (zE145_164 : List Bool) =>
                  LET (law31_works) fun y165 =>
                  y165) (Int.toNat (y142 - 0)) 0 (List.replicate y142.toNat false)) (Int.toNat ((x0.Registers.length : Int) - 0)) 0 zE105_133) (Int.toNat ((x0.Metadata.length : Int) - 0)) 0 zE105_125) (Int.toNat ((x0.Headers.length : Int) - 0)) 0 ([] : List Int)

end Go.Proofs.Ytepkgeppmjmkjaa
