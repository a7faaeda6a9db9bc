/-
  Each function of this seat as a plain program.
-/
import Derived.Test.YthdnpgpnodgicaaGreatKTy
set_option linter.unusedVariables false
set_option linter.unusedSimpArgs false
set_option maxRecDepth 100000
namespace Go.Proofs.YthdnpgpnodgicaaGreat
open Go Go.Pb Go.RowKit
def law21_nodes_L1 (x0 : List api_ControlNode) (x1 : Int) (rec_ : (List api_ControlNode) → Int → Int) (K0 : Int → Int) : Nat → Int → Int → Int
  | 0, x5_, x6_ => K0 x5_
  | m + 1, x5_, x6_ =>
    if ((decide (x6_ < (x0.length : Int))) && (decide (x5_ < 100))) then
      if ((decide (x1 = 0)) || (decide (40 < (((ix x0 x6_).Cond).length : Int)))) then
        100
      else
      LET (rec_ ((ix x0 x6_).Then) (wr (x1 - 1))) fun y111 =>
      LET (rec_ ((ix x0 x6_).Else) (wr (x1 - 1))) fun y114 =>
      law21_nodes_L1 x0 x1 rec_ K0 m (wr ((wr (x5_ + y111)) + y114)) (x6_ + 1)
    else
    K0 x5_
/-- patchbay/patchbaylaw21.nodes -/
def law21_nodes_B (rec_ : (List api_ControlNode) → Int → Int) (x0 : List api_ControlNode) (x1 : Int) : Int :=
  law21_nodes_L1 x0 x1 rec_ (fun (x5_115 : Int) =>
      x5_115) (Int.toNat ((x0.length : Int) - 0)) (x0.length : Int) 0
def law21_nodes_R : Nat → (List api_ControlNode) → Int → Int
  | 0, _, _ => default
  | n_ + 1, x0, x1 => law21_nodes_B (law21_nodes_R n_) x0 x1
def law21_nodes (x0 : List api_ControlNode) (x1 : Int) : Int := law21_nodes_R (x1.toNat + 1) x0 x1

def ref11_Small_L1 (x0 : api_Header) (K0 : Unit → Bool) : Nat → Int → Bool
  | 0, x3_ => K0 ()
  | m + 1, x3_ =>
    if (decide (30 < (((ix x0.Fields x3_).Name).length : Int))) then
      false
    else
    ref11_Small_L1 x0 K0 m (x3_ + 1)
/-- patchbay/patchbayref11.Small -/
def ref11_Small (x0 : api_Header) : Bool :=
  if ((decide (30 < (x0.Name.length : Int))) || (decide (20 < (x0.Fields.length : Int)))) then
    false
  else
  ref11_Small_L1 x0 (fun (_ : Unit) =>
      true) (Int.toNat ((x0.Fields.length : Int) - 0)) 0

def law21_largeAction_L1 (x0 : api_Action) (K0 : Unit → Bool) : Nat → Int → Bool
  | 0, x3_ => K0 ()
  | m + 1, x3_ =>
    if ((decide (40 < (((ix x0.Body x3_).Index).length : Int))) || (decide (40 < (((ix x0.Body x3_).Value).length : Int)))) then
      true
    else
    law21_largeAction_L1 x0 K0 m (x3_ + 1)
/-- patchbay/patchbaylaw21.largeAction -/
def law21_largeAction (x0 : api_Action) : Bool :=
  if (((decide (8 < (x0.Params.length : Int))) || (decide (16 < (x0.Body.length : Int)))) || (decide (60 < (x0.Name.length : Int)))) then
    true
  else
  law21_largeAction_L1 x0 (fun (_ : Unit) =>
      false) (Int.toNat ((x0.Body.length : Int) - 0)) 0

/-- patchbay/patchbaylaw21.largeState -/
def law21_largeState (x0 : api_ParserState) : Bool :=
  (((decide (8 < (x0.Extract.length : Int))) || (decide (12 < (x0.Cases.length : Int)))) || (decide (60 < (x0.Name.length : Int))))

def law21_TooLarge_L1 (x0 : api_Program) (K0 : Unit → Bool) : Nat → Int → Bool
  | 0, x3_ => K0 ()
  | m + 1, x3_ =>
    LET (ref11_Small (ix x0.Headers x3_)) fun y125 =>
    if (!y125) then
      true
    else
    law21_TooLarge_L1 x0 K0 m (x3_ + 1)
def law21_TooLarge_L2 (x0 : api_Program) (K2 : Unit → Bool) : Nat → Int → Bool
  | 0, x4_ => K2 ()
  | m + 1, x4_ =>
    LET (law21_largeAction (ix x0.Actions x4_)) fun y134 =>
    if y134 then
      true
    else
    law21_TooLarge_L2 x0 K2 m (x4_ + 1)
def law21_TooLarge_L3 (x0 : api_Program) (K4 : Unit → Bool) : Nat → Int → Bool
  | 0, x5_ => K4 ()
  | m + 1, x5_ =>
    if ((((decide (10 < (((ix x0.Tables x5_).Keys).length : Int))) || (decide (24 < (((ix x0.Tables x5_).Actions).length : Int)))) || (decide (8 < ((((ix x0.Tables x5_).Default).Args).length : Int)))) || (decide (60 < (((ix x0.Tables x5_).Name).length : Int)))) then
      true
    else
    law21_TooLarge_L3 x0 K4 m (x5_ + 1)
def law21_TooLarge_L4 (x0 : api_Program) (K6 : Unit → Bool) : Nat → Int → Bool
  | 0, x6_ => K6 ()
  | m + 1, x6_ =>
    LET (law21_largeState (ix x0.States x6_)) fun y164 =>
    if y164 then
      true
    else
    law21_TooLarge_L4 x0 K6 m (x6_ + 1)
/-- patchbay/patchbaylaw21.TooLarge -/
def law21_TooLarge (x0 : api_Program) : Bool :=
  if (((((((((decide (60 < (x0.Name.length : Int))) || (decide (16 < (x0.Headers.length : Int)))) || (decide (20 < (x0.Metadata.length : Int)))) || (decide (8 < (x0.Registers.length : Int)))) || (decide (24 < (x0.Actions.length : Int)))) || (decide (16 < (x0.Tables.length : Int)))) || (decide (16 < (x0.States.length : Int)))) || (decide (16 < (x0.Deparser.length : Int)))) || (decide (60 < (law21_nodes x0.Control 10)))) then
    true
  else
  law21_TooLarge_L1 x0 (fun (_ : Unit) =>
      law21_TooLarge_L2 x0 (fun (_ : Unit) =>
          law21_TooLarge_L3 x0 (fun (_ : Unit) =>
              law21_TooLarge_L4 x0 (fun (_ : Unit) =>
                  false) (Int.toNat ((x0.States.length : Int) - 0)) 0) (Int.toNat ((x0.Tables.length : Int) - 0)) 0) (Int.toNat ((x0.Actions.length : Int) - 0)) 0) (Int.toNat ((x0.Headers.length : Int) - 0)) 0

def law24_tooLarge_L1 (x0 : law24_Case) (K0 : Unit → Bool) : Nat → Int → Bool
  | 0, x3_ => K0 ()
  | m + 1, x3_ =>
    if ((decide (20 < ((((ix x0.Rows x3_).Entry).Keys).length : Int))) || (decide (20 < (((((ix x0.Rows x3_).Entry).Call).Args).length : Int)))) then
      true
    else
    law24_tooLarge_L1 x0 K0 m (x3_ + 1)
/-- patchbay/patchbaylaw24.tooLarge -/
def law24_tooLarge (x0 : law24_Case) : Bool :=
  LET (law21_TooLarge x0.Program) fun y102 =>
  if ((y102 || (decide (30 < (x0.Rows.length : Int)))) || (decide (20 < (x0.Key.length : Int)))) then
    true
  else
  law24_tooLarge_L1 x0 (fun (_ : Unit) =>
      false) (Int.toNat ((x0.Rows.length : Int) - 0)) 0

def law24_works : Bool := true

def entry_Matches_L1 (x0 : api_Entry) (x1 : List (BitVec 32)) (K0 : Unit → Bool) : Nat → Int → Bool
  | 0, x16_ => K0 ()
  | m + 1, x16_ =>
    if (!decide ((((ix x1 x16_) ^^^ ((ix x0.Keys x16_).Value)) &&& ((ix x0.Keys x16_).Mask)) = 0#32)) then
      false
    else
    entry_Matches_L1 x0 x1 K0 m (x16_ + 1)
/-- patchbay/entry.Matches -/
def entry_Matches (x0 : api_Entry) (x1 : List (BitVec 32)) : Bool :=
  if (!decide ((x1.length : Int) = (x0.Keys.length : Int))) then
    false
  else
  entry_Matches_L1 x0 x1 (fun (_ : Unit) =>
      true) (Int.toNat ((x0.Keys.length : Int) - 0)) 0

def lookup_find_api_Row_L1 (x0 : List api_Row) (x1 : api_Row → Bool) (K0 : api_Row → (api_Row × Bool)) : Nat → Int → api_Row → (api_Row × Bool)
  | 0, x11_, zE102 => K0 zE102
  | m + 1, x11_, zE102 =>
    if (x1 (ix x0 x11_)) then
      ((ix x0 x11_), true)
    else
    lookup_find_api_Row_L1 x0 x1 K0 m (x11_ + 1) zE102
/-- patchbay/lookup.find[patchbay/api.Row] -/
def lookup_find_api_Row (x0 : List api_Row) (x1 : api_Row → Bool) : api_Row × Bool :=
  lookup_find_api_Row_L1 x0 x1 (fun (zE102_112 : api_Row) =>
      (({ ID := 0, Entry := ({ Keys := ([] : List api_KeyMatch), Priority := 0, Call := ({ Action := 0, Args := ([] : List (BitVec 32)) } : api_ActionCall) } : api_Entry) } : api_Row), false)) (Int.toNat ((x0.length : Int) - 0)) 0 ({ ID := 0, Entry := ({ Keys := ([] : List api_KeyMatch), Priority := 0, Call := ({ Action := 0, Args := ([] : List (BitVec 32)) } : api_ActionCall) } : api_Entry) } : api_Row)

def bitvec_OnesCount_L1 (x0 : BitVec 32) (K0 : Int → Int) : Nat → Int → Int → Int
  | 0, x3_, x5_ => K0 x3_
  | m + 1, x3_, x5_ =>
    bitvec_OnesCount_L1 x0 K0 m (wr (x3_ + (((x0 >>> x5_.toNat) &&& 1#32).toNat : Int))) (x5_ + 1)
/-- patchbay/bitvec.OnesCount -/
def bitvec_OnesCount (x0 : BitVec 32) : Int :=
  bitvec_OnesCount_L1 x0 (fun (x3_103 : Int) =>
      x3_103) (Int.toNat (32 - 0)) 0 0

def entry_prefix_L1 (x0 : api_Program) (x1 : Int) (x2 : api_Entry) (K0 : Unit → Int) : Nat → Int → Int
  | 0, x25_ => K0 ()
  | m + 1, x25_ =>
    if (decide (((ix ((ix x0.Tables x1).Keys) x25_).Kind) = 2)) then
      if (decide (x25_ < (x2.Keys.length : Int))) then
        LET (bitvec_OnesCount ((ix x2.Keys x25_).Mask)) fun y118 =>
        y118
      else
      0
    else
    entry_prefix_L1 x0 x1 x2 K0 m (x25_ + 1)
/-- patchbay/entry.prefix -/
def entry_prefix (x0 : api_Program) (x1 : Int) (x2 : api_Entry) : Int :=
  if ((decide (x1 < 0)) || (decide ((x0.Tables.length : Int) ≤ x1))) then
    0
  else
  entry_prefix_L1 x0 x1 x2 (fun (_ : Unit) =>
      0) (Int.toNat ((((ix x0.Tables x1).Keys).length : Int) - 0)) 0

/-- patchbay/entry.Precedes -/
def entry_Precedes (x0 : api_Program) (x1 : Int) (x2 : api_Row) (x3 : api_Row) : Bool :=
  if (!decide (x2.Entry.Priority = x3.Entry.Priority)) then
    (decide (x3.Entry.Priority < x2.Entry.Priority))
  else
  LET (entry_prefix x0 x1 x2.Entry) fun y107 =>
  LET (entry_prefix x0 x1 x3.Entry) fun y109 =>
  if (!decide (y107 = y109)) then
    (decide (y109 < y107))
  else
  (decide (x2.ID < x3.ID))

def lookup_Best (x0 : api_Program) (x1 : Int) (x2 : List api_Row) (x3 : List (BitVec 32)) : api_Row × Bool :=
  if decide (x1 < 0) || decide ((x0.Tables.length : Int) ≤ x1) then (({ ID := 0, Entry := ({ Keys := ([] : List api_KeyMatch), Priority := 0, Call := ({ Action := 0, Args := ([] : List (BitVec 32)) } : api_ActionCall) } : api_Entry) } : api_Row), false)
  else lookup_find_api_Row x2 (fun r => entry_Matches r.Entry x3 && !(lookup_find_api_Row x2 (fun x => entry_Matches x.Entry x3 && entry_Precedes x0 x1 x r)).2)

def ref23_Matches_L1 (x0 : api_Entry) (x1 : List (BitVec 32)) (K0 : Unit → Bool) : Nat → Int → Bool
  | 0, x5_ => K0 ()
  | m + 1, x5_ =>
    if (!decide ((((ix x1 x5_) ^^^ ((ix x0.Keys x5_).Value)) &&& ((ix x0.Keys x5_).Mask)) = 0#32)) then
      false
    else
    ref23_Matches_L1 x0 x1 K0 m (x5_ + 1)
/-- patchbay/patchbayref23.Matches -/
def ref23_Matches (x0 : api_Entry) (x1 : List (BitVec 32)) : Bool :=
  if (!decide ((x0.Keys.length : Int) = (x1.length : Int))) then
    false
  else
  ref23_Matches_L1 x0 x1 (fun (_ : Unit) =>
      true) (Int.toNat ((x1.length : Int) - 0)) 0

def ref01_OnesCount_L1 (K0 : Int → Int) : Nat → (BitVec 32) → Int → Int → Int
  | 0, x0_, x3_, x4_ => K0 x3_
  | m + 1, x0_, x3_, x4_ =>
    ref01_OnesCount_L1 K0 m (x0_ / 2#32) (wr (x3_ + ((x0_ % 2#32).toNat : Int))) (x4_ + 1)
/-- patchbay/patchbayref01.OnesCount -/
def ref01_OnesCount (x0 : BitVec 32) : Int :=
  ref01_OnesCount_L1 (fun (x3_103 : Int) =>
      x3_103) (Int.toNat (32 - 0)) x0 0 0

def ref23_prefixBits_L1 (x0 : api_Program) (x1 : Int) (x2 : api_Entry) (K0 : Unit → Int) : Nat → Int → Int
  | 0, x7_ => K0 ()
  | m + 1, x7_ =>
    if (decide (((ix ((ix x0.Tables x1).Keys) x7_).Kind) = 2)) then
      if (decide ((x2.Keys.length : Int) ≤ x7_)) then
        0
      else
      LET (ref01_OnesCount ((ix x2.Keys x7_).Mask)) fun y121 =>
      y121
    else
    ref23_prefixBits_L1 x0 x1 x2 K0 m (x7_ + 1)
/-- patchbay/patchbayref23.prefixBits -/
def ref23_prefixBits (x0 : api_Program) (x1 : Int) (x2 : api_Entry) : Int :=
  if ((decide (x1 < 0)) || (decide ((x0.Tables.length : Int) ≤ x1))) then
    0
  else
  ref23_prefixBits_L1 x0 x1 x2 (fun (_ : Unit) =>
      0) (Int.toNat ((((ix x0.Tables x1).Keys).length : Int) - 0)) 0

/-- patchbay/patchbayref23.Precedes -/
def ref23_Precedes (x0 : api_Program) (x1 : Int) (x2 : api_Row) (x3 : api_Row) : Bool :=
  LET (ref23_prefixBits x0 x1 x2.Entry) fun y102 =>
  LET (ref23_prefixBits x0 x1 x3.Entry) fun y104 =>
  if (!decide (x2.Entry.Priority = x3.Entry.Priority)) then
    (decide (x3.Entry.Priority < x2.Entry.Priority))
  else
  if (!decide (y102 = y104)) then
    (decide (y104 < y102))
  else
  (decide (x2.ID < x3.ID))

def ref24_Best_L1 (x0 : api_Program) (x1 : Int) (x2 : List api_Row) (x3 : List (BitVec 32)) (K0 : Bool → api_Row → (api_Row × Bool)) : Nat → Bool → Int → api_Row → (api_Row × Bool)
  | 0, x11_, x12_, zE104 => K0 x11_ zE104
  | m + 1, x11_, x12_, zE104 =>
    if (((decide (x12_ < (x2.length : Int))) && (decide (0 ≤ x1))) && (decide (x1 < (x0.Tables.length : Int)))) then
      LET (ref23_Matches ((ix x2 x12_).Entry) x3) fun y117 =>
      if (y117 && ((!x11_) || (ref23_Precedes x0 x1 (ix x2 x12_) zE104))) then
        ref24_Best_L1 x0 x1 x2 x3 K0 m true (x12_ + 1) (ix x2 x12_)
      else
      ref24_Best_L1 x0 x1 x2 x3 K0 m x11_ (x12_ + 1) zE104
    else
    K0 x11_ zE104
/-- patchbay/patchbayref24.Best -/
def ref24_Best (x0 : api_Program) (x1 : Int) (x2 : List api_Row) (x3 : List (BitVec 32)) : api_Row × Bool :=
  ref24_Best_L1 x0 x1 x2 x3 (fun (x11_125 : Bool) (zE104_125 : api_Row) =>
      (zE104_125, x11_125)) (Int.toNat ((x2.length : Int) - 0)) false 0 ({ ID := 0, Entry := ({ Keys := ([] : List api_KeyMatch), Priority := 0, Call := ({ Action := 0, Args := ([] : List (BitVec 32)) } : api_ActionCall) } : api_Entry) } : api_Row)

def ref23_SameKey_L1 (x0 : api_Entry) (x1 : api_Entry) (K0 : Unit → Bool) : Nat → Int → Bool
  | 0, x5_ => K0 ()
  | m + 1, x5_ =>
    if (!decide ((ix x0.Keys x5_) = (ix x1.Keys x5_))) then
      false
    else
    ref23_SameKey_L1 x0 x1 K0 m (x5_ + 1)
/-- patchbay/patchbayref23.SameKey -/
def ref23_SameKey (x0 : api_Entry) (x1 : api_Entry) : Bool :=
  if ((!decide ((x0.Keys.length : Int) = (x1.Keys.length : Int))) || (!decide (x0.Priority = x1.Priority))) then
    false
  else
  ref23_SameKey_L1 x0 x1 (fun (_ : Unit) =>
      true) (Int.toNat ((x0.Keys.length : Int) - 0)) 0

def ref23_EqualCalls_L1 (x0 : api_ActionCall) (x1 : api_ActionCall) (K0 : Unit → Bool) : Nat → Int → Bool
  | 0, x5_ => K0 ()
  | m + 1, x5_ =>
    if (!decide ((ix x0.Args x5_) = (ix x1.Args x5_))) then
      false
    else
    ref23_EqualCalls_L1 x0 x1 K0 m (x5_ + 1)
/-- patchbay/patchbayref23.EqualCalls -/
def ref23_EqualCalls (x0 : api_ActionCall) (x1 : api_ActionCall) : Bool :=
  if ((!decide (x0.Action = x1.Action)) || (!decide ((x0.Args.length : Int) = (x1.Args.length : Int)))) then
    false
  else
  ref23_EqualCalls_L1 x0 x1 (fun (_ : Unit) =>
      true) (Int.toNat ((x0.Args.length : Int) - 0)) 0

/-- patchbay/patchbayref23.Equal -/
def ref23_Equal (x0 : api_Entry) (x1 : api_Entry) : Bool :=
  LET (ref23_SameKey x0 x1) fun y101 =>
  (y101 && (ref23_EqualCalls x0.Call x1.Call))

/-- patchbay/patchbaylaw24.equal -/
def law24_equal (x0 : api_Row) (x1 : api_Row) : Bool :=
  ((decide (x0.ID = x1.ID)) && (ref23_Equal x0.Entry x1.Entry))

/-- patchbay/patchbaylaw24.LookupBest -/
def law24_LookupBest (x0 : law24_Case) : Bool :=
  LET (law24_tooLarge x0) fun y101 =>
  if y101 then
    LET (law24_works) fun y103 =>
    y103
  else
  LET (lookup_Best x0.Program x0.Table x0.Rows x0.Key) fun y107 =>
  LET (ref24_Best x0.Program x0.Table x0.Rows x0.Key) fun y115 =>
  LET (law24_equal y107.1 y115.1) fun y120 =>
  ((y120 && (decide (y107.2 = y115.2))) && (law24_works))

end Go.Proofs.YthdnpgpnodgicaaGreat
