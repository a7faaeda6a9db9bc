import Derived.Test.YthdnpgpnodgicaaGreatKTy
import Derived.Test.YthdnpgpnodgicaaGreatPbC
set_option linter.unusedVariables false
set_option linter.unusedSimpArgs false
set_option maxRecDepth 100000
namespace Go.Proofs.YthdnpgpnodgicaaGreat
open Go Go.Pb Go.RowKit
def qv (x0 : List am) (x1 : Int) (rec_ : (List am) → Int → Int) (K0 : Int → Int) : Nat → Int → Int → Int
 | 0, x5_, x6_ => K0 x5_
 | m + 1, x5_, x6_ =>
   if ((decide (x6_ < (x0.length : Int))) && (decide (x5_ < 100))) then
    if ((decide (x1 = 0)) || (decide (40 < (((ix x0 x6_).Cond).length : Int)))) then
     100
    else
    LET (rec_ ((ix x0 x6_).Then) (wr (x1 - 1))) fun y111 =>
    LET (rec_ ((ix x0 x6_).Else) (wr (x1 - 1))) fun y114 =>
    qv x0 x1 rec_ K0 m (wr ((wr (x5_ + y111)) + y114)) (x6_ + 1)
   else
   K0 x5_
def tj (rec_ : (List am) → Int → Int) (x0 : List am) (x1 : Int) : Int :=
 qv x0 x1 rec_ (fun (x5_115 : Int) =>
  x5_115) (Int.toNat ((x0.length : Int) - 0)) (x0.length : Int) 0
def pz : Nat → (List am) → Int → Int
 | 0, _, _ => default
 | n_ + 1, x0, x1 => tj (pz n_) x0 x1
def qi (x0 : List am) (x1 : Int) : Int := pz (x1.toNat + 1) x0 x1
def qg (x0 : cy) (K0 : Unit → Bool) : Nat → Int → Bool
 | 0, x3_ => K0 ()
 | m + 1, x3_ =>
   if (decide (30 < (((ix x0.Fields x3_).Name).length : Int))) then
    false
   else
   qg x0 K0 m (x3_ + 1)
def yb (x0 : cy) : Bool :=
 if ((decide (30 < (x0.Name.length : Int))) || (decide (20 < (x0.Fields.length : Int)))) then
  false
 else
 qg x0 (fun (_ : Unit) =>
  true) (Int.toNat ((x0.Fields.length : Int) - 0)) 0
def ly (x0 : dc) (K0 : Unit → Bool) : Nat → Int → Bool
 | 0, x3_ => K0 ()
 | m + 1, x3_ =>
   if ((decide (40 < (((ix x0.Body x3_).Index).length : Int))) || (decide (40 < (((ix x0.Body x3_).Value).length : Int)))) then
    true
   else
   ly x0 K0 m (x3_ + 1)
def sg (x0 : dc) : Bool :=
 if (((decide (8 < (x0.Params.length : Int))) || (decide (16 < (x0.Body.length : Int)))) || (decide (60 < (x0.Name.length : Int)))) then
  true
 else
 ly x0 (fun (_ : Unit) =>
  false) (Int.toNat ((x0.Body.length : Int) - 0)) 0
def td (x0 : cz) : Bool :=
 (((decide (8 < (x0.Extract.length : Int))) || (decide (12 < (x0.Cases.length : Int)))) || (decide (60 < (x0.Name.length : Int))))
def oa (x0 : ab) (K0 : Unit → Bool) : Nat → Int → Bool
 | 0, x3_ => K0 ()
 | m + 1, x3_ =>
   LET (yb (ix x0.Headers x3_)) fun y125 =>
   if (!y125) then
    true
   else
   oa x0 K0 m (x3_ + 1)
def oh (x0 : ab) (K2 : Unit → Bool) : Nat → Int → Bool
 | 0, x4_ => K2 ()
 | m + 1, x4_ =>
   LET (sg (ix x0.Actions x4_)) fun y134 =>
   if y134 then
    true
   else
   oh x0 K2 m (x4_ + 1)
def nz (x0 : ab) (K4 : Unit → Bool) : Nat → Int → Bool
 | 0, x5_ => K4 ()
 | m + 1, x5_ =>
   if ((((decide (10 < (((ix x0.Tables x5_).Keys).length : Int))) || (decide (24 < (((ix x0.Tables x5_).Actions).length : Int)))) || (decide (8 < ((((ix x0.Tables x5_).Default).Args).length : Int)))) || (decide (60 < (((ix x0.Tables x5_).Name).length : Int)))) then
    true
   else
   nz x0 K4 m (x5_ + 1)
def oc (x0 : ab) (K6 : Unit → Bool) : Nat → Int → Bool
 | 0, x6_ => K6 ()
 | m + 1, x6_ =>
   LET (td (ix x0.States x6_)) fun y164 =>
   if y164 then
    true
   else
   oc x0 K6 m (x6_ + 1)
def ou (x0 : ab) : Bool :=
 if (((((((((decide (60 < (x0.Name.length : Int))) || (decide (16 < (x0.Headers.length : Int)))) || (decide (20 < (x0.Metadata.length : Int)))) || (decide (8 < (x0.Registers.length : Int)))) || (decide (24 < (x0.Actions.length : Int)))) || (decide (16 < (x0.Tables.length : Int)))) || (decide (16 < (x0.States.length : Int)))) || (decide (16 < (x0.Deparser.length : Int)))) || (decide (60 < (qi x0.Control 10)))) then
  true
 else
 oa x0 (fun (_ : Unit) =>
  oh x0 (fun (_ : Unit) =>
   nz x0 (fun (_ : Unit) =>
    oc x0 (fun (_ : Unit) =>
     false) (Int.toNat ((x0.States.length : Int) - 0)) 0) (Int.toNat ((x0.Tables.length : Int) - 0)) 0) (Int.toNat ((x0.Actions.length : Int) - 0)) 0) (Int.toNat ((x0.Headers.length : Int) - 0)) 0
def ke (x0 : co) (K0 : Unit → Bool) : Nat → Int → Bool
 | 0, x3_ => K0 ()
 | m + 1, x3_ =>
   if ((decide (20 < ((((ix x0.Rows x3_).Entry).Keys).length : Int))) || (decide (20 < (((((ix x0.Rows x3_).Entry).Call).Args).length : Int)))) then
    true
   else
   ke x0 K0 m (x3_ + 1)
def kb (x0 : co) : Bool :=
 LET (ou x0.Program) fun y102 =>
 if ((y102 || (decide (30 < (x0.Rows.length : Int)))) || (decide (20 < (x0.Key.length : Int)))) then
  true
 else
 ke x0 (fun (_ : Unit) =>
  false) (Int.toNat ((x0.Rows.length : Int) - 0)) 0
def pm : Bool := true
def vx (x0 : au) (x1 : List (BitVec 32)) (K0 : Unit → Bool) : Nat → Int → Bool
 | 0, x16_ => K0 ()
 | m + 1, x16_ =>
   if (!decide ((((ix x1 x16_) ^^^ ((ix x0.Keys x16_).Value)) &&& ((ix x0.Keys x16_).Mask)) = 0#32)) then
    false
   else
   vx x0 x1 K0 m (x16_ + 1)
def ll (x0 : au) (x1 : List (BitVec 32)) : Bool :=
 if (!decide ((x1.length : Int) = (x0.Keys.length : Int))) then
  false
 else
 vx x0 x1 (fun (_ : Unit) =>
  true) (Int.toNat ((x0.Keys.length : Int) - 0)) 0
def ft (x0 : List av) (x1 : av → Bool) (K0 : av → (av × Bool)) : Nat → Int → av → (av × Bool)
 | 0, x11_, zE102 => K0 zE102
 | m + 1, x11_, zE102 =>
   if (x1 (ix x0 x11_)) then
    ((ix x0 x11_), true)
   else
   ft x0 x1 K0 m (x11_ + 1) zE102
def ep (x0 : List av) (x1 : av → Bool) : av × Bool :=
 ft x0 x1 (fun (zE102_112 : av) =>
  (({ ID := 0, Entry := ({ Keys := ([] : List ba), Priority := 0, Call := ({ Action := 0, Args := ([] : List (BitVec 32)) } : bh) } : au) } : av), false)) (Int.toNat ((x0.length : Int) - 0)) 0 ({ ID := 0, Entry := ({ Keys := ([] : List ba), Priority := 0, Call := ({ Action := 0, Args := ([] : List (BitVec 32)) } : bh) } : au) } : av)
def jd (x0 : BitVec 32) (K0 : Int → Int) : Nat → Int → Int → Int
 | 0, x3_, x5_ => K0 x3_
 | m + 1, x3_, x5_ =>
   jd x0 K0 m (wr (x3_ + (((x0 >>> x5_.toNat) &&& 1#32).toNat : Int))) (x5_ + 1)
def pe (x0 : BitVec 32) : Int :=
 jd x0 (fun (x3_103 : Int) =>
  x3_103) (Int.toNat (32 - 0)) 0 0
def mf (x0 : ab) (x1 : Int) (x2 : au) (K0 : Unit → Int) : Nat → Int → Int
 | 0, x25_ => K0 ()
 | m + 1, x25_ =>
   if (decide (((ix ((ix x0.Tables x1).Keys) x25_).Kind) = 2)) then
    if (decide (x25_ < (x2.Keys.length : Int))) then
     LET (pe ((ix x2.Keys x25_).Mask)) fun y118 =>
     y118
    else
    0
   else
   mf x0 x1 x2 K0 m (x25_ + 1)
def lj (x0 : ab) (x1 : Int) (x2 : au) : Int :=
 if ((decide (x1 < 0)) || (decide ((x0.Tables.length : Int) ≤ x1))) then
  0
 else
 mf x0 x1 x2 (fun (_ : Unit) =>
  0) (Int.toNat ((((ix x0.Tables x1).Keys).length : Int) - 0)) 0
def gi (x0 : ab) (x1 : Int) (x2 : av) (x3 : av) : Bool :=
 if (!decide (x2.Entry.Priority = x3.Entry.Priority)) then
  (decide (x3.Entry.Priority < x2.Entry.Priority))
 else
 LET (lj x0 x1 x2.Entry) fun y107 =>
 LET (lj x0 x1 x3.Entry) fun y109 =>
 if (!decide (y107 = y109)) then
  (decide (y109 < y107))
 else
 (decide (x2.ID < x3.ID))
def xv (x0 : ab) (x1 : Int) (x2 : List av) (x3 : List (BitVec 32)) : av × Bool :=
 if decide (x1 < 0) || decide ((x0.Tables.length : Int) ≤ x1) then (({ ID := 0, Entry := ({ Keys := ([] : List ba), Priority := 0, Call := ({ Action := 0, Args := ([] : List (BitVec 32)) } : bh) } : au) } : av), false)
 else ep x2 (fun r => ll r.Entry x3 && !(ep x2 (fun x => ll x.Entry x3 && gi x0 x1 x r)).2)
def wb (x0 : au) (x1 : List (BitVec 32)) (K0 : Unit → Bool) : Nat → Int → Bool
 | 0, x5_ => K0 ()
 | m + 1, x5_ =>
   if (!decide ((((ix x1 x5_) ^^^ ((ix x0.Keys x5_).Value)) &&& ((ix x0.Keys x5_).Mask)) = 0#32)) then
    false
   else
   wb x0 x1 K0 m (x5_ + 1)
def ao1 (x0 : au) (x1 : List (BitVec 32)) : Bool :=
 if (!decide ((x0.Keys.length : Int) = (x1.length : Int))) then
  false
 else
 wb x0 x1 (fun (_ : Unit) =>
  true) (Int.toNat ((x1.length : Int) - 0)) 0
def jr (K0 : Int → Int) : Nat → (BitVec 32) → Int → Int → Int
 | 0, x0_, x3_, x4_ => K0 x3_
 | m + 1, x0_, x3_, x4_ =>
   jr K0 m (x0_ / 2#32) (wr (x3_ + ((x0_ % 2#32).toNat : Int))) (x4_ + 1)
def pu (x0 : BitVec 32) : Int :=
 jr (fun (x3_103 : Int) =>
  x3_103) (Int.toNat (32 - 0)) x0 0 0
def jf (x0 : ab) (x1 : Int) (x2 : au) (K0 : Unit → Int) : Nat → Int → Int
 | 0, x7_ => K0 ()
 | m + 1, x7_ =>
   if (decide (((ix ((ix x0.Tables x1).Keys) x7_).Kind) = 2)) then
    if (decide ((x2.Keys.length : Int) ≤ x7_)) then
     0
    else
    LET (pu ((ix x2.Keys x7_).Mask)) fun y121 =>
    y121
   else
   jf x0 x1 x2 K0 m (x7_ + 1)
def mu (x0 : ab) (x1 : Int) (x2 : au) : Int :=
 if ((decide (x1 < 0)) || (decide ((x0.Tables.length : Int) ≤ x1))) then
  0
 else
 jf x0 x1 x2 (fun (_ : Unit) =>
  0) (Int.toNat ((((ix x0.Tables x1).Keys).length : Int) - 0)) 0
def pd (x0 : ab) (x1 : Int) (x2 : av) (x3 : av) : Bool :=
 LET (mu x0 x1 x2.Entry) fun y102 =>
 LET (mu x0 x1 x3.Entry) fun y104 =>
 if (!decide (x2.Entry.Priority = x3.Entry.Priority)) then
  (decide (x3.Entry.Priority < x2.Entry.Priority))
 else
 if (!decide (y102 = y104)) then
  (decide (y104 < y102))
 else
 (decide (x2.ID < x3.ID))
def vf (x0 : ab) (x1 : Int) (x2 : List av) (x3 : List (BitVec 32)) (K0 : Bool → av → (av × Bool)) : Nat → Bool → Int → av → (av × Bool)
 | 0, x11_, x12_, zE104 => K0 x11_ zE104
 | m + 1, x11_, x12_, zE104 =>
   if (((decide (x12_ < (x2.length : Int))) && (decide (0 ≤ x1))) && (decide (x1 < (x0.Tables.length : Int)))) then
    LET (ao1 ((ix x2 x12_).Entry) x3) fun y117 =>
    if (y117 && ((!x11_) || (pd x0 x1 (ix x2 x12_) zE104))) then
     vf x0 x1 x2 x3 K0 m true (x12_ + 1) (ix x2 x12_)
    else
    vf x0 x1 x2 x3 K0 m x11_ (x12_ + 1) zE104
   else
   K0 x11_ zE104
def dt7 (x0 : ab) (x1 : Int) (x2 : List av) (x3 : List (BitVec 32)) : av × Bool :=
 vf x0 x1 x2 x3 (fun (x11_125 : Bool) (zE104_125 : av) =>
  (zE104_125, x11_125)) (Int.toNat ((x2.length : Int) - 0)) false 0 ({ ID := 0, Entry := ({ Keys := ([] : List ba), Priority := 0, Call := ({ Action := 0, Args := ([] : List (BitVec 32)) } : bh) } : au) } : av)
def lg (x0 : au) (x1 : au) (K0 : Unit → Bool) : Nat → Int → Bool
 | 0, x5_ => K0 ()
 | m + 1, x5_ =>
   if (!decide ((ix x0.Keys x5_) = (ix x1.Keys x5_))) then
    false
   else
   lg x0 x1 K0 m (x5_ + 1)
def mm (x0 : au) (x1 : au) : Bool :=
 if ((!decide ((x0.Keys.length : Int) = (x1.Keys.length : Int))) || (!decide (x0.Priority = x1.Priority))) then
  false
 else
 lg x0 x1 (fun (_ : Unit) =>
  true) (Int.toNat ((x0.Keys.length : Int) - 0)) 0
def tx (x0 : bh) (x1 : bh) (K0 : Unit → Bool) : Nat → Int → Bool
 | 0, x5_ => K0 ()
 | m + 1, x5_ =>
   if (!decide ((ix x0.Args x5_) = (ix x1.Args x5_))) then
    false
   else
   tx x0 x1 K0 m (x5_ + 1)
def ae4 (x0 : bh) (x1 : bh) : Bool :=
 if ((!decide (x0.Action = x1.Action)) || (!decide ((x0.Args.length : Int) = (x1.Args.length : Int)))) then
  false
 else
 tx x0 x1 (fun (_ : Unit) =>
  true) (Int.toNat ((x0.Args.length : Int) - 0)) 0
def bc6 (x0 : au) (x1 : au) : Bool :=
 LET (mm x0 x1) fun y101 =>
 (y101 && (ae4 x0.Call x1.Call))
def bd4 (x0 : av) (x1 : av) : Bool :=
 ((decide (x0.ID = x1.ID)) && (bc6 x0.Entry x1.Entry))
def nt (x0 : UInt8) : Bool :=
 (((decide ((97 : UInt8) ≤ x0)) && (decide (x0 ≤ (122 : UInt8)))) || ((decide ((65 : UInt8) ≤ x0)) && (decide (x0 ≤ (90 : UInt8)))))
def qf (x0 : UInt8) : Bool :=
 ((decide ((48 : UInt8) ≤ x0)) && (decide (x0 ≤ (57 : UInt8))))
def ig (x0 : List UInt8) (K0 : Unit → Bool) : Nat → Int → Bool
 | 0, x3_ => K0 ()
 | m + 1, x3_ =>
   LET (nt (ix x0 x3_)) fun y107 =>
   if (((!y107) && (!(qf (ix x0 x3_)))) && (!decide ((ix x0 x3_) = (95 : UInt8)))) then
    false
   else
   ig x0 K0 m (x3_ + 1)
def nd (x0 : List UInt8) : Bool :=
 if (((decide (x0 = ([] : List UInt8))) || (decide (16 < (x0.length : Int)))) || (!(nt (ix x0 0)))) then
  false
 else
 ig x0 (fun (_ : Unit) =>
  true) (Int.toNat ((x0.length : Int) - 0)) 0
def iv (x0 : ab) (x1 : cp) : Int :=
 LET (fun (x5_108 : List ck) =>
  if (((((decide (x1.Header < (-1))) || (decide (x1.Field < 0))) || (decide ((x5_108.length : Int) ≤ x1.Field))) || (decide (((ix x5_108 x1.Field).Width) < 1))) || (decide (32 < ((ix x5_108 x1.Field).Width)))) then
   0
  else
  (ix x5_108 x1.Field).Width) fun k108 =>
 if (decide (0 ≤ x1.Header)) then
  if (decide ((x0.Headers.length : Int) ≤ x1.Header)) then
   0
  else
  k108 ((ix x0.Headers x1.Header).Fields)
 else
 k108 x0.Metadata
def jz (x0 : ab) (x1 : az) (K0 : Int → Int → (Int × Int)) : Nat → Int → Int → Int → (Int × Int)
 | 0, x6_, x7_, x8_ => K0 x6_ x7_
 | m + 1, x6_, x7_, x8_ =>
   LET (iv x0 ((ix x1.Keys x8_).Field)) fun y108 =>
   if (decide (y108 = 0)) then
    (x8_, 8)
   else
   if (((!decide (((ix x1.Keys x8_).Kind) = 1)) && (!decide (((ix x1.Keys x8_).Kind) = 2))) && (!decide (((ix x1.Keys x8_).Kind) = 3))) then
    (x8_, 11)
   else
   if (decide (((ix x1.Keys x8_).Kind) = 2)) then
    jz x0 x1 K0 m (wr (x6_ + y108)) (wr (x7_ + 1)) (x8_ + 1)
   else
   jz x0 x1 K0 m (wr (x6_ + y108)) x7_ (x8_ + 1)
def rn (x0 : ab) (x1 : az) : Int × Int :=
 jz x0 x1 (fun (x6_116 : Int) (x7_116 : Int) =>
  if (decide (1 < x7_116)) then
   ((-2), 7)
  else
  if (decide (64 < x6_116)) then
   ((-2), 10)
  else
  (0, 0)) (Int.toNat ((x1.Keys.length : Int) - 0)) 0 0 0
def ir (x0 : List Int) (x1 : Int) (K0 : Unit → Int) : Nat → Int → Int
 | 0, x5_ => K0 ()
 | m + 1, x5_ =>
   if (decide ((ix x0 x5_) = x1)) then
    x5_
   else
   ir x0 x1 K0 m (x5_ + 1)
def gn (x0 : List Int) (x1 : Int) : Int :=
 ir x0 x1 (fun (_ : Unit) =>
  (-1)) (Int.toNat ((x0.length : Int) - 0)) 0
def fu (x0 : Int) : Bool :=
 ((decide (1 ≤ x0)) && (decide (x0 ≤ 32)))
def qn (K0 : (BitVec 64) → (BitVec 64)) : Nat → (BitVec 64) → Int → (BitVec 64)
 | 0, x3_, x4_ => K0 x3_
 | m + 1, x3_, x4_ =>
   qn K0 m (2#64 * x3_) (x4_ + 1)
def mn (x0 : Int) : (BitVec 64) :=
 qn (fun (x3_103 : BitVec 64) =>
  x3_103) (Int.toNat (x0 - 0)) 1#64 0
def oq (x0 : BitVec 32) (x1 : Int) : Bool :=
 LET (fu x1) fun y101 =>
 (y101 && (decide ((BitVec.setWidth 64 x0) < (mn x1))))
def jt (x0 : ab) (x1 : bh) (K0 : Unit → Int) : Nat → Int → Int
 | 0, x6_ => K0 ()
 | m + 1, x6_ =>
   LET (oq (ix x1.Args x6_) ((ix ((ix x0.Actions x1.Action).Params) x6_).Width)) fun y113 =>
   if (!y113) then
    9
   else
   jt x0 x1 K0 m (x6_ + 1)
def nm (x0 : ab) (x1 : bh) : Int :=
 if ((decide (x1.Action < 0)) || (decide ((x0.Actions.length : Int) ≤ x1.Action))) then
  8
 else
 if (!decide ((x1.Args.length : Int) = (((ix x0.Actions x1.Action).Params).length : Int))) then
  2
 else
 jt x0 x1 (fun (_ : Unit) =>
  0) (Int.toNat ((((ix x0.Actions x1.Action).Params).length : Int) - 0)) 0
def jv (x0 : ab) (x1 : az) (K0 : Unit → Int) : Nat → Int → Int
 | 0, x5_ => K0 ()
 | m + 1, x5_ =>
   if ((decide ((ix x1.Actions x5_) < 0)) || (decide ((x0.Actions.length : Int) ≤ (ix x1.Actions x5_)))) then
    8
   else
   LET (gn x1.Actions (ix x1.Actions x5_)) fun y112 =>
   if (decide (y112 < x5_)) then
    7
   else
   jv x0 x1 K0 m (x5_ + 1)
def rl (x0 : ab) (x1 : az) : Int :=
 jv x0 x1 (fun (_ : Unit) =>
  LET (gn x1.Actions x1.Default.Action) fun y117 =>
  if (decide (y117 < 0)) then
   8
  else
  LET (nm x0 x1.Default) fun y120 =>
  y120) (Int.toNat ((x1.Actions.length : Int) - 0)) 0
def fk (x0 : ab) (x1 : Int) : Int × Int :=
 if ((decide (x1 < 0)) || (decide ((x0.Tables.length : Int) ≤ x1))) then
  ((-1), 8)
 else
 LET (nd ((ix x0.Tables x1).Name)) fun y109 =>
 if (!y109) then
  ((-1), 6)
 else
 if ((decide (6 < (((ix x0.Tables x1).Keys).length : Int))) || (decide (16 < (((ix x0.Tables x1).Actions).length : Int)))) then
  ((-1), 12)
 else
 if ((decide (((ix x0.Tables x1).Size) < 1)) || (decide (256 < ((ix x0.Tables x1).Size)))) then
  ((-1), 9)
 else
 LET (rn x0 (ix x0.Tables x1)) fun y117 =>
 if (!decide (y117.2 = 0)) then
  (y117.1, y117.2)
 else
 LET (rl x0 (ix x0.Tables x1)) fun y119 =>
 if (!decide (y119 = 0)) then
  ((-3), y119)
 else
 (0, 0)
def fi (x0 : ab) (x1 : Int) : Bool :=
 LET (fk x0 x1) fun y101 =>
 (decide (y101.2 = 0))
def kw (x0 : ab) (x1 : Int) (K0 : (List Int) → (List Int)) : Nat → Int → (List Int) → (List Int)
 | 0, x6_, zE104 => K0 zE104
 | m + 1, x6_, zE104 =>
   LET (iv x0 ((ix ((ix x0.Tables x1).Keys) x6_).Field)) fun y118 =>
   kw x0 x1 K0 m (x6_ + 1) (zE104 ++ ([y118] : List Int))
def du (x0 : ab) (x1 : Int) : (List Int) :=
 LET (fi x0 x1) fun y101 =>
 if (!y101) then
  ([] : List Int)
 else
 kw x0 x1 (fun (zE104_121 : List Int) =>
  zE104_121) (Int.toNat ((((ix x0.Tables x1).Keys).length : Int) - 0)) 0 ([] : List Int)
def pf (x0 : Int) (x1 : Int) : (BitVec 32) :=
 LET (fu x1) fun y101 =>
 if (!y101) then
  0#32
 else
 LET (mn x1) fun y103 =>
 LET (mn (wr (x1 - (min (max x0 0) x1)))) fun y104 =>
 (BitVec.setWidth 32 (y103 - y104))
def ip (x0 : BitVec 32) (x1 : Int) (K0 : Unit → (Int × Bool)) : Nat → Int → (Int × Bool)
 | 0, x6_ => K0 ()
 | m + 1, x6_ =>
   if ((decide (x6_ ≤ x1)) && (fu x1)) then
    LET (pf x6_ x1) fun y107 =>
    if (decide (y107 = x0)) then
     (x6_, true)
    else
    ip x0 x1 K0 m (x6_ + 1)
   else
   K0 ()
def ko (x0 : BitVec 32) (x1 : Int) : Int × Bool :=
 ip x0 x1 (fun (_ : Unit) =>
  (0, false)) (Int.toNat ((x1 + 1) - 0)) 0
def kj (x0 : Int) : (BitVec 32) :=
 LET (fu x0) fun y101 =>
 if (!y101) then
  0#32
 else
 LET (mn x0) fun y103 =>
 (BitVec.setWidth 32 (y103 - 1#64))
def ka (x0 : ba) (x1 : Int) (x2 : Int) : Int :=
 LET (ko x0.Mask x1) fun y101 =>
 LET (oq x0.Value x1) fun y102 =>
 if ((!y102) || (!(oq x0.Mask x1))) then
  9
 else
 if (!decide ((x0.Value &&& x0.Mask) = x0.Value)) then
  5
 else
 if (((decide (x2 = 1)) && (!decide (x0.Mask = (kj x1)))) || ((decide (x2 = 2)) && (!y101.2))) then
  11
 else
 0
def li (x0 : ab) (x1 : Int) (K0 : Int → Int) : Nat → Int → Int → Int
 | 0, x5_, x6_ => K0 x5_
 | m + 1, x5_, x6_ =>
   li x0 x1 K0 m (max x5_ ((ix ((ix x0.Tables x1).Keys) x6_).Kind)) (x6_ + 1)
def qs (x0 : ab) (x1 : Int) : Int :=
 LET (fi x0 x1) fun y101 =>
 if (!y101) then
  0
 else
 li x0 x1 (fun (x5_115 : Int) =>
  x5_115) (Int.toNat ((((ix x0.Tables x1).Keys).length : Int) - 0)) 1 0
def sj (x0 : ab) (x1 : Int) (x2 : Int) : Bool :=
 LET (fi x0 x1) fun y101 =>
 (y101 && (decide (0 ≤ (gn ((ix x0.Tables x1).Actions) x2))))
def kg (x0 : ab) (x1 : Int) (x2 : au) (y103 : (List Int)) (K0 : Unit → Int) : Nat → Int → Int
 | 0, x10_ => K0 ()
 | m + 1, x10_ =>
   LET (ka (ix x2.Keys x10_) (ix y103 x10_) ((ix ((ix x0.Tables x1).Keys) x10_).Kind)) fun y115 =>
   if (!decide (y115 = 0)) then
    y115
   else
   kg x0 x1 x2 y103 K0 m (x10_ + 1)
def ma (x0 : ab) (x1 : Int) (x2 : au) : Int :=
 LET (fk x0 x1) fun y101 =>
 if (!decide (y101.2 = 0)) then
  y101.2
 else
 LET (du x0 x1) fun y103 =>
 if (!decide ((x2.Keys.length : Int) = (y103.length : Int))) then
  2
 else
 kg x0 x1 x2 y103 (fun (_ : Unit) =>
  if ((decide (x2.Priority < 0)) || (decide (255 < x2.Priority))) then
   9
  else
  if ((decide (0 < x2.Priority)) && (!decide ((qs x0 x1) = 3))) then
   11
  else
  LET (sj x0 x1 x2.Call.Action) fun y124 =>
  if (!y124) then
   8
  else
  LET (nm x0 x2.Call) fun y127 =>
  y127) (Int.toNat ((y103.length : Int) - 0)) 0
def lu (x2 : List av) (x9_ : Int) (K2 : Unit → Int) : Nat → Int → Int
 | 0, x10_ => K2 ()
 | m + 1, x10_ =>
   if ((decide (((ix x2 x10_).ID) = ((ix x2 x9_).ID))) || (mm ((ix x2 x10_).Entry) ((ix x2 x9_).Entry))) then
    7
   else
   lu x2 x9_ K2 m (x10_ + 1)
def im (x0 : ab) (x1 : Int) (x2 : List av) (K0 : Unit → Int) : Nat → Int → Int
 | 0, x9_ => K0 ()
 | m + 1, x9_ =>
   LET (ma x0 x1 ((ix x2 x9_).Entry)) fun y107 =>
   if (!decide (y107 = 0)) then
    y107
   else
   lu x2 x9_ (fun (_ : Unit) =>
    im x0 x1 x2 K0 m (x9_ + 1)) (Int.toNat (x9_ - 0)) 0
def gz (x0 : ab) (x1 : Int) (x2 : List av) : Int :=
 LET (fk x0 x1) fun y101 =>
 if (!decide (y101.2 = 0)) then
  y101.2
 else
 im x0 x1 x2 (fun (_ : Unit) =>
  0) (Int.toNat ((x2.length : Int) - 0)) 0
def lw (x0 : UInt8) : Bool :=
 (((decide ((97 : UInt8) ≤ x0)) && (decide (x0 ≤ (122 : UInt8)))) || ((decide ((65 : UInt8) ≤ x0)) && (decide (x0 ≤ (90 : UInt8)))))
def mj (x0 : List UInt8) (x1 : UInt8 → Bool) (K0 : Int → Int) : Nat → Int → Int
 | 0, x5_ => K0 x5_
 | m + 1, x5_ =>
   if ((decide (x5_ < (x0.length : Int))) && (x1 (ix x0 x5_))) then
    mj x0 x1 K0 m (x5_ + 1)
   else
   K0 x5_
def ua (x0 : List UInt8) (x1 : UInt8 → Bool) : Int :=
 mj x0 x1 (fun (x5_107 : Int) =>
  x5_107) (Int.toNat ((x0.length : Int) - 0)) 0
def mq (x0 : UInt8) : Bool :=
 ((decide ((48 : UInt8) ≤ x0)) && (decide (x0 ≤ (57 : UInt8))))
def jx (x0 : UInt8) : Bool :=
 LET (lw x0) fun y101 =>
 ((y101 || (mq x0)) || (decide (x0 = (95 : UInt8))))
def ng (x0 : List UInt8) : Bool :=
 if (((decide ((x0.length : Int) = 0)) || (decide (16 < (x0.length : Int)))) || (!(lw (ix x0 0)))) then
  false
 else
 LET (ua x0 jx) fun y105 =>
 (decide (y105 = (x0.length : Int)))
def ik (x0 : List cy) (x1 : Int) : cy :=
 if ((decide (x1 < 0)) || (decide ((x0.length : Int) ≤ x1))) then
  ({ Name := ([] : List UInt8), Fields := ([] : List ck) } : cy)
 else
 (ix x0 x1)
def wq (x0 : ab) (x1 : Int) : (List ck) :=
 if (decide (x1 = (-1))) then
  x0.Metadata
 else
 LET (ik x0.Headers x1) fun y104 =>
 y104.Fields
def mw (x0 : List ck) (x1 : Int) : ck :=
 if ((decide (x1 < 0)) || (decide ((x0.length : Int) ≤ x1))) then
  ({ Name := ([] : List UInt8), Width := 0 } : ck)
 else
 (ix x0 x1)
def mh (x0 : List Int) (K0 : Unit → Bool) : Nat → Int → Bool
 | 0, x7_ => K0 ()
 | m + 1, x7_ =>
   if ((decide ((ix x0 x7_) < 1)) || (decide (32 < (ix x0 x7_)))) then
    false
   else
   mh x0 K0 m (x7_ + 1)
def ja (x0 : List Int) : Bool :=
 mh x0 (fun (_ : Unit) =>
  true) (Int.toNat ((x0.length : Int) - 0)) 0
def fh (x0 : Int) : (BitVec 32) :=
 LET (ja ([x0] : List Int)) fun y102 =>
 if (!y102) then
  0#32
 else
 (4294967295#32 >>> (wr (32 - x0)).toNat)
def ry (x0 : ab) (x1 : cp) : Int :=
 LET (wq x0 x1.Header) fun y101 =>
 LET (mw y101 x1.Field) fun y103 =>
 LET (fh y103.Width) fun y105 =>
 if (decide (y105 = 0#32)) then
  0
 else
 y103.Width
def iu (x0 : ab) (x1 : az) (K0 : Int → Int → (Int × Int)) : Nat → Int → Int → Int → (Int × Int)
 | 0, x6_, x7_, x14_ => K0 x6_ x7_
 | m + 1, x6_, x7_, x14_ =>
   LET (ry x0 ((ix x1.Keys x14_).Field)) fun y109 =>
   if (decide (y109 = 0)) then
    (x14_, 8)
   else
   if (decide (((ix x1.Keys x14_).Kind) = 2)) then
    iu x0 x1 K0 m (wr (x6_ + 1)) (wr (x7_ + y109)) (x14_ + 1)
   else
   LET (fun (x33_113 : Bool) =>
    if x33_113 then
     iu x0 x1 K0 m x6_ (wr (x7_ + y109)) (x14_ + 1)
    else
    (x14_, 11)) fun k113 =>
   if (decide (((ix x1.Keys x14_).Kind) = 1)) then
    k113 (decide (((ix x1.Keys x14_).Kind) = 1))
   else
   k113 (decide (((ix x1.Keys x14_).Kind) = 3))
def nq (x0 : ab) (x1 : az) : Int × Int :=
 iu x0 x1 (fun (x6_116 : Int) (x7_116 : Int) =>
  if (decide (1 < x6_116)) then
   ((-2), 7)
  else
  if (decide (64 < x7_116)) then
   ((-2), 10)
  else
  (0, 0)) (Int.toNat ((x1.Keys.length : Int) - 0)) 0 0 0
def lv (x0 : BitVec 32) (x1 : Int) : Bool :=
 LET (ja ([x1] : List Int)) fun y102 =>
 (y102 && (decide (x0 ≤ (fh x1))))
def jc (x0 : ab) (x1 : bh) (K0 : Unit → Int) : Nat → Int → Int
 | 0, x35_ => K0 ()
 | m + 1, x35_ =>
   LET (lv (ix x1.Args x35_) ((ix ((ix x0.Actions x1.Action).Params) x35_).Width)) fun y113 =>
   if (!y113) then
    9
   else
   jc x0 x1 K0 m (x35_ + 1)
def mr (x0 : ab) (x1 : bh) : Int :=
 if ((decide (x1.Action < 0)) || (decide ((x0.Actions.length : Int) ≤ x1.Action))) then
  8
 else
 if (!decide ((x1.Args.length : Int) = (((ix x0.Actions x1.Action).Params).length : Int))) then
  2
 else
 jc x0 x1 (fun (_ : Unit) =>
  0) (Int.toNat ((x1.Args.length : Int) - 0)) 0
def gb (x0 : ab) (x1 : az) (K0 : (List (Int × Bool)) → Int) : Nat → Int → (List (Int × Bool)) → Int
 | 0, x12_, zE102 => K0 zE102
 | m + 1, x12_, zE102 =>
   if ((decide ((ix x1.Actions x12_) < 0)) || (decide ((x0.Actions.length : Int) ≤ (ix x1.Actions x12_)))) then
    8
   else
   if ((mget zE102 (ix x1.Actions x12_)).getD false) then
    7
   else
   gb x0 x1 K0 m (x12_ + 1) (mput zE102 (ix x1.Actions x12_) true)
def nl (x0 : ab) (x1 : az) : Int :=
 gb x0 x1 (fun (zE102_112 : List (Int × Bool)) =>
  if (!((mget zE102_112 x1.Default.Action).getD false)) then
   8
  else
  LET (mr x0 x1.Default) fun y117 =>
  y117) (Int.toNat ((x1.Actions.length : Int) - 0)) 0 ([] : List (Int × Bool))
def gx (x0 : ab) (x1 : Int) : Int × Int :=
 if ((decide (x1 < 0)) || (decide ((x0.Tables.length : Int) ≤ x1))) then
  ((-1), 8)
 else
 LET (ng ((ix x0.Tables x1).Name)) fun y109 =>
 if (!y109) then
  ((-1), 6)
 else
 if ((decide (6 < (((ix x0.Tables x1).Keys).length : Int))) || (decide (16 < (((ix x0.Tables x1).Actions).length : Int)))) then
  ((-1), 12)
 else
 if ((decide (((ix x0.Tables x1).Size) < 1)) || (decide (256 < ((ix x0.Tables x1).Size)))) then
  ((-1), 9)
 else
 LET (nq x0 (ix x0.Tables x1)) fun y117 =>
 if (!decide (y117.2 = 0)) then
  (y117.1, y117.2)
 else
 LET (nl x0 (ix x0.Tables x1)) fun y119 =>
 if (!decide (y119 = 0)) then
  ((-3), y119)
 else
 (0, 0)
def gc (x0 : ab) (x1 : Int) : Bool :=
 LET (gx x0 x1) fun y101 =>
 (decide (y101.2 = 0))
def kt (x0 : ab) (x1 : Int) (K0 : (List Int) → (List Int)) : Nat → Int → (List Int) → (List Int)
 | 0, x19_, zE107 => K0 zE107
 | m + 1, x19_, zE107 =>
   LET (ry x0 ((ix ((ix x0.Tables x1).Keys) x19_).Field)) fun y115 =>
   kt x0 x1 K0 m (x19_ + 1) (zE107 ++ ([y115] : List Int))
def dj (x0 : ab) (x1 : Int) : (List Int) :=
 LET (gc x0 x1) fun y101 =>
 if (!y101) then
  ([] : List Int)
 else
 kt x0 x1 (fun (zE107_118 : List Int) =>
  zE107_118) (Int.toNat ((((ix x0.Tables x1).Keys).length : Int) - 0)) 0 ([] : List Int)
def jg (x0 : Int) (x1 : Int) : (BitVec 32) :=
 LET (ja ([x1] : List Int)) fun y102 =>
 if (!y102) then
  0#32
 else
 LET (fh x1) fun y104 =>
 LET (fh x1) fun y105 =>
 (y104 &&& ~~~(y105 >>> (min (max x0 0) x1).toNat))
def fc (x0 : BitVec 32) (x1 : Int) (K0 : Unit → (Int × Bool)) : Nat → Int → (Int × Bool)
 | 0, x13_ => K0 ()
 | m + 1, x13_ =>
   LET (jg x13_ x1) fun y106 =>
   if (decide (y106 = x0)) then
    (x13_, true)
   else
   fc x0 x1 K0 m (x13_ + 1)
def ee (x0 : BitVec 32) (x1 : Int) : Int × Bool :=
 LET (ja ([x1] : List Int)) fun y102 =>
 if (!y102) then
  (0, false)
 else
 fc x0 x1 (fun (_ : Unit) =>
  (0, false)) (Int.toNat ((wr (x1 + 1)) - 0)) 0
def qh (x0 : ba) (x1 : Int) (x2 : Int) : Int :=
 LET (lv x0.Value x2) fun y101 =>
 if ((!y101) || (!(lv x0.Mask x2))) then
  9
 else
 if (!decide ((x0.Value &&& ~~~x0.Mask) = 0#32)) then
  5
 else
 if ((decide (x1 = 1)) && (!decide (x0.Mask = (fh x2)))) then
  11
 else
 LET (fun (_ : Unit) =>
  0) fun k112 =>
 if (decide (x1 = 2)) then
  LET (ee x0.Mask x2) fun y114 =>
  if (!y114.2) then
   11
  else
  k112 ()
 else
 k112 ()
def mo (x0 : ab) (x1 : Int) (K0 : Int → Int) : Nat → Int → Int → Int
 | 0, x5_, x19_ => K0 x5_
 | m + 1, x5_, x19_ =>
   if (decide (((ix ((ix x0.Tables x1).Keys) x19_).Kind) = 3)) then
    3
   else
   if (decide (((ix ((ix x0.Tables x1).Keys) x19_).Kind) = 2)) then
    mo x0 x1 K0 m 2 (x19_ + 1)
   else
   mo x0 x1 K0 m x5_ (x19_ + 1)
def iw (x0 : ab) (x1 : Int) : Int :=
 LET (gc x0 x1) fun y101 =>
 if (!y101) then
  0
 else
 mo x0 x1 (fun (x5_114 : Int) =>
  x5_114) (Int.toNat ((((ix x0.Tables x1).Keys).length : Int) - 0)) 1 0
def kp (x0 : ab) (x1 : Int) (x2 : Int) (K0 : Unit → Bool) : Nat → Int → Bool
 | 0, x20_ => K0 ()
 | m + 1, x20_ =>
   if (decide ((ix ((ix x0.Tables x1).Actions) x20_) = x2)) then
    true
   else
   kp x0 x1 x2 K0 m (x20_ + 1)
def qx (x0 : ab) (x1 : Int) (x2 : Int) : Bool :=
 LET (gc x0 x1) fun y101 =>
 if (!y101) then
  false
 else
 kp x0 x1 x2 (fun (_ : Unit) =>
  false) (Int.toNat ((((ix x0.Tables x1).Actions).length : Int) - 0)) 0
def mz (x0 : ab) (x1 : Int) (x2 : au) (y106 : (List Int)) (K0 : Unit → Int) : Nat → Int → Int
 | 0, x41_ => K0 ()
 | m + 1, x41_ =>
   LET (qh (ix x2.Keys x41_) ((ix ((ix x0.Tables x1).Keys) x41_).Kind) (ix y106 x41_)) fun y118 =>
   if (!decide (y118 = 0)) then
    y118
   else
   mz x0 x1 x2 y106 K0 m (x41_ + 1)
def od (x0 : ab) (x1 : Int) (x2 : au) : Int :=
 LET (gx x0 x1) fun y101 =>
 if (!decide (y101.2 = 0)) then
  y101.2
 else
 LET (dj x0 x1) fun y106 =>
 if (!decide ((x2.Keys.length : Int) = (((ix x0.Tables x1).Keys).length : Int))) then
  2
 else
 mz x0 x1 x2 y106 (fun (_ : Unit) =>
  if ((decide (x2.Priority < 0)) || (decide (255 < x2.Priority))) then
   9
  else
  if ((!decide (x2.Priority = 0)) && (!decide ((iw x0 x1) = 3))) then
   11
  else
  LET (qx x0 x1 x2.Call.Action) fun y127 =>
  if (!y127) then
   8
  else
  LET (mr x0 x2.Call) fun y130 =>
  y130) (Int.toNat ((x2.Keys.length : Int) - 0)) 0
def lc (x0 : au) (x1 : au) (K0 : Unit → Bool) : Nat → Int → Bool
 | 0, x24_ => K0 ()
 | m + 1, x24_ =>
   if (!decide ((ix x0.Keys x24_) = (ix x1.Keys x24_))) then
    false
   else
   lc x0 x1 K0 m (x24_ + 1)
def jm (x0 : au) (x1 : au) : Bool :=
 if ((!decide (x0.Priority = x1.Priority)) || (!decide ((x0.Keys.length : Int) = (x1.Keys.length : Int)))) then
  false
 else
 lc x0 x1 (fun (_ : Unit) =>
  true) (Int.toNat ((x0.Keys.length : Int) - 0)) 0
def bt (x0 : List bn) (x1 : bn → Bool) (K0 : Unit → Int) : Nat → Int → Int
 | 0, x8_ => K0 ()
 | m + 1, x8_ =>
   if (x1 (ix x0 x8_)) then
    x8_
   else
   bt x0 x1 K0 m (x8_ + 1)
def gg (x0 : List bn) (x1 : bn → Bool) : Int :=
 bt x0 x1 (fun (_ : Unit) =>
  (-1)) (Int.toNat ((x0.length : Int) - 0)) 0
def jw (x0 : au) (K0 : (List (BitVec 32)) → (List (BitVec 32))) : Nat → Int → (List (BitVec 32)) → (List (BitVec 32))
 | 0, x9_, zE103 => K0 zE103
 | m + 1, x9_, zE103 =>
   jw x0 K0 m (x9_ + 1) (zE103 ++ ([(ix x0.Keys x9_).Value] : List (BitVec 32)))
def px (x0 : au) : (List (BitVec 32)) :=
 jw x0 (fun (zE103_112 : List (BitVec 32)) =>
  zE103_112) (Int.toNat ((x0.Keys.length : Int) - 0)) 0 ([] : List (BitVec 32))
def bn8 (x0 : co) (x1 : List (List (BitVec 32))) : Bool := true
def bk8 (x0 : co) : Bool := true
def oi (y101 : (List Int)) (K0 : Int → Int) : Nat → Int → Int → Int
 | 0, x5_, x12_ => K0 x5_
 | m + 1, x5_, x12_ =>
   oi y101 K0 m (wr (x5_ + (ix y101 x12_))) (x12_ + 1)
def ld (x0 : ab) (x1 : Int) : Int :=
 LET (dj x0 x1) fun y101 =>
 oi y101 (fun (x5_105 : Int) =>
  x5_105) (Int.toNat ((y101.length : Int) - 0)) 0 0
def my (x0 : au) (x1 : List Int) (K0 : aa → aa) : Nat → Int → aa → aa
 | 0, x11_, zE104 => K0 zE104
 | m + 1, x11_, zE104 =>
   my x0 x1 K0 m (x11_ + 1) ({ Value := ((zE104.Value <<< (ix x1 x11_).toNat) ||| (BitVec.setWidth 64 ((ix x0.Keys x11_).Value))), Mask := ((zE104.Mask <<< (ix x1 x11_).toNat) ||| (BitVec.setWidth 64 ((ix x0.Keys x11_).Mask))) } : aa)
def ji (x0 : au) (x1 : List Int) : aa :=
 my x0 x1 (fun (zE104_116 : aa) =>
  zE104_116) (Int.toNat ((x0.Keys.length : Int) - 0)) 0 ({ Value := 0#64, Mask := 0#64 } : aa)
def lr (x0 : aa) (x1 : aa) : Bool :=
 ((decide ((x1.Mask &&& ~~~x0.Mask) = 0#64)) && (decide (((x0.Value ^^^ x1.Value) &&& x1.Mask) = 0#64)))
def gm (x0 : List aa) (x1 : Int) (K0 : Unit → Bool) : Nat → Int → Bool
 | 0, x9_ => K0 ()
 | m + 1, x9_ =>
   if ((decide (x9_ = x1)) || (!(lr (ix x0 x1) (ix x0 x9_)))) then
    gm x0 x1 K0 m (x9_ + 1)
   else
   LET (lr (ix x0 x9_) (ix x0 x1)) fun y112 =>
   if ((!y112) || (decide (x9_ < x1))) then
    true
   else
   gm x0 x1 K0 m (x9_ + 1)
def qd (x0 : List aa) (x1 : Int) : Bool :=
 gm x0 x1 (fun (_ : Unit) =>
  false) (Int.toNat ((x0.length : Int) - 0)) 0
def gy (x0 : List aa) (K0 : (List aa) → (List aa)) : Nat → Int → (List aa) → (List aa)
 | 0, x8_, zE102 => K0 zE102
 | m + 1, x8_, zE102 =>
   LET (qd x0 x8_) fun y109 =>
   if (!y109) then
    gy x0 K0 m (x8_ + 1) (zE102 ++ ([({ Value := (((ix x0 x8_).Value) &&& ((ix x0 x8_).Mask)), Mask := (ix x0 x8_).Mask } : aa)] : List aa))
   else
   gy x0 K0 m (x8_ + 1) zE102
def pg (x0 : List aa) : (List aa) :=
 gy x0 (fun (zE102_113 : List aa) =>
  zE102_113) (Int.toNat ((x0.length : Int) - 0)) 0 ([] : List aa)
def fw (x0 : List aa) : (List aa) × Int :=
 LET (pg x0) fun y101 =>
 if (decide (1024 < (y101.length : Int))) then
  (([] : List aa), 12)
 else
 (y101, 0)
def je (x0 : List aa) (x1 : Int) (K0 : (List aa) → (List aa)) : Nat → Int → (List aa) → (List aa)
 | 0, x15_, zE102 => K0 zE102
 | m + 1, x15_, zE102 =>
   je x0 x1 K0 m (x15_ + 1) (zE102 ++ ([({ Value := (((ix x0 x15_).Value) &&& (((ix x0 x15_).Mask) &&& (18446744073709551615#64 >>> (wr (64 - x1)).toNat))), Mask := (((ix x0 x15_).Mask) &&& (18446744073709551615#64 >>> (wr (64 - x1)).toNat)) } : aa)] : List aa))
def lf (x0 : List aa) (x1 : Int) : (List aa) :=
 je x0 x1 (fun (zE102_111 : List aa) =>
  zE102_111) (Int.toNat ((x0.length : Int) - 0)) 0 ([] : List aa)
def ri (x0 : Int) : Bool :=
 ((decide (1 ≤ x0)) && (decide (x0 ≤ 64)))
def dy (x0 : Int) : (BitVec 64) :=
 (18446744073709551615#64 >>> (wr (64 - x0)).toNat)
def en (x0 : aa) : aa :=
 ({ Value := (x0.Value &&& x0.Mask), Mask := x0.Mask } : aa)
def ii (x0 : aa) (x1 : aa) : aa × Bool :=
 if (!decide ((((x0.Value ^^^ x1.Value) &&& x0.Mask) &&& x1.Mask) = 0#64)) then
  (({ Value := 0#64, Mask := 0#64 } : aa), false)
 else
 (({ Value := ((x0.Value &&& x0.Mask) ||| (x1.Value &&& x1.Mask)), Mask := (x0.Mask ||| x1.Mask) } : aa), true)
def cn (x0 : BitVec 64) : Int := if x0 = 0#64 then 0 else ((Nat.log2 x0.toNat : Nat) : Int) + 1
def dz (y : aa) : Nat → BitVec 64 → aa → List aa
 | 0, _, _ => []
 | m + 1, left, rest => if left = 0#64 then [] else
   ({ Value := rest.Value ||| (~~~y.Value &&& (1#64 <<< (cn left - 1).toNat)), Mask := rest.Mask ||| (1#64 <<< (cn left - 1).toNat) } : aa) ::
     dz y m (left &&& ~~~(1#64 <<< (cn left - 1).toNat)) ({ Value := rest.Value ||| (y.Value &&& (1#64 <<< (cn left - 1).toNat)), Mask := rest.Mask ||| (1#64 <<< (cn left - 1).toNat) } : aa)
def cx (x0 x1 : aa) (x2 : Int) : List aa :=
 if (!ri x2) = true then [] else
 LET (en ({ Value := x0.Value, Mask := x0.Mask &&& dy x2 } : aa)) fun a =>
 LET (en ({ Value := x1.Value, Mask := x1.Mask &&& dy x2 } : aa)) fun b =>
 if (!(ii a b).2) = true then [a] else dz b 64 (b.Mask &&& ~~~a.Mask) a
def js (w : Int) : List aa → List aa → List aa × Int
 | [], out => (out, 0)
 | x :: b, out => LET (fw (out.flatMap fun c => cx c x w)) fun q => if (!decide (q.2 = 0)) = true then ([], q.2) else js w b q.1
def jb (x0 x1 : List aa) (x2 : Int) : List aa × Int :=
 if (decide (x2 < 1) || decide (64 < x2)) = true then ([], 10) else
 LET (fw (lf x0 x2)) fun q => if (!decide (q.2 = 0)) = true then ([], q.2) else js x2 x1 q.1
def ot (p : ab) (t : Int) (W : List Int) (l : List av) (r : av) : List aa := (l.filter fun x => gi p t x r).map fun x => ji x.Entry W
def kn (p : ab) (t : Int) (W : List Int) (n : Int) (l : List av) : List av → List Int → List Int × Int
 | [], out => (out.mergeSort fun x y => decide (x ≤ y), 0)
 | r :: rs, out => LET (jb [ji r.Entry W] (ot p t W l r) n) fun q => if (!decide (q.2 = 0)) = true then ([], q.2) else kn p t W n l rs (if decide ((q.1.length : Int) = 0) = true then out ++ [r.ID] else out)
def kr (p : ab) (t : Int) (l : List av) : List Int × Int :=
 LET (gz p t l) fun e => if (!decide (e = 0)) = true then ([], e) else
 if decide (ld p t = 0) = true then ([], 0) else kn p t (dj p t) (ld p t) l l []
def oo (x2 : au) (y103 : (List Int)) (K0 : aa → aa) : Nat → Int → aa → aa
 | 0, x9_, zE106 => K0 zE106
 | m + 1, x9_, zE106 =>
   if ((decide (x9_ < (y103.length : Int))) && (decide (x9_ < (x2.Keys.length : Int)))) then
    oo x2 y103 K0 m (x9_ + 1) ({ Value := ((zE106.Value <<< (ix y103 x9_).toNat) ||| (BitVec.setWidth 64 ((ix x2.Keys x9_).Value))), Mask := ((zE106.Mask <<< (ix y103 x9_).toNat) ||| (BitVec.setWidth 64 ((ix x2.Keys x9_).Mask))) } : aa)
   else
   K0 zE106
def su (x0 : ab) (x1 : Int) (x2 : au) : aa :=
 LET (du x0 x1) fun y103 =>
 oo x2 y103 (fun (zE106_122 : aa) =>
  zE106_122) (Int.toNat ((y103.length : Int) - 0)) 0 ({ Value := 0#64, Mask := 0#64 } : aa)
def jl (y101 : (List Int)) (K0 : Int → Int) : Nat → Int → Int → Int
 | 0, x6_, x7_ => K0 x6_
 | m + 1, x6_, x7_ =>
   jl y101 K0 m (wr (x6_ + (ix y101 x7_))) (x7_ + 1)
def qp (x0 : ab) (x1 : Int) : Int :=
 LET (du x0 x1) fun y101 =>
 jl y101 (fun (x6_105 : Int) =>
  x6_105) (Int.toNat ((y101.length : Int) - 0)) 0 0
def py (x0 : Int) : (BitVec 64) :=
 (((1#64 <<< (BitVec.ofInt 64 (wr (x0 - 1))).toNat) * 2#64) - 1#64)
def fq (x0 : aa) (x1 : aa) : Bool :=
 ((decide ((x0.Mask &&& x1.Mask) = x1.Mask)) && (decide ((x0.Value &&& x1.Mask) = (x1.Value &&& x1.Mask))))
def gq (x0 : List aa) (x1 : Int) (K0 : Unit → Bool) : Nat → Int → Bool
 | 0, x5_ => K0 ()
 | m + 1, x5_ =>
   if (((!decide (x5_ = x1)) && (fq (ix x0 x1) (ix x0 x5_))) && ((decide (x5_ < x1)) || (!(fq (ix x0 x5_) (ix x0 x1))))) then
    true
   else
   gq x0 x1 K0 m (x5_ + 1)
def nr (x0 : List aa) (x1 : Int) : Bool :=
 gq x0 x1 (fun (_ : Unit) =>
  false) (Int.toNat ((x0.length : Int) - 0)) 0
def gj (x0 : List aa) (K0 : (List aa) → (List aa)) : Nat → Int → (List aa) → (List aa)
 | 0, x4_, zE102 => K0 zE102
 | m + 1, x4_, zE102 =>
   LET (nr x0 x4_) fun y105 =>
   if (!y105) then
    gj x0 K0 m (x4_ + 1) (zE102 ++ ([({ Value := (((ix x0 x4_).Value) &&& ((ix x0 x4_).Mask)), Mask := (ix x0 x4_).Mask } : aa)] : List aa))
   else
   gj x0 K0 m (x4_ + 1) zE102
def na (x0 : List aa) : (List aa) :=
 gj x0 (fun (zE102_112 : List aa) =>
  zE102_112) (Int.toNat ((x0.length : Int) - 0)) 0 ([] : List aa)
def ki (x0 : List aa) : (List aa) × Int :=
 LET (na x0) fun y101 =>
 if (decide (1024 < (y101.length : Int))) then
  (([] : List aa), 12)
 else
 (y101, 0)
def pn (K0 : (BitVec 64) → (BitVec 64)) : Nat → (BitVec 64) → Int → (BitVec 64)
 | 0, x3_, x4_ => K0 x3_
 | m + 1, x3_, x4_ =>
   pn K0 m ((2#64 * x3_) + 1#64) (x4_ + 1)
def ug (x0 : Int) : (BitVec 64) :=
 pn (fun (x3_103 : BitVec 64) =>
  x3_103) (Int.toNat (x0 - 0)) 0#64 0
def me (x0 : aa) (x1 : Int) : aa :=
 LET (ug x1) fun y103 =>
 ({ Value := (x0.Value &&& (x0.Mask &&& y103)), Mask := (x0.Mask &&& y103) } : aa)
def jo (x0 : aa) (x1 : aa) : aa × Bool :=
 if (!decide ((x0.Value &&& (x0.Mask &&& x1.Mask)) = (x1.Value &&& (x0.Mask &&& x1.Mask)))) then
  (({ Value := 0#64, Mask := 0#64 } : aa), false)
 else
 (({ Value := ((x0.Value &&& x0.Mask) ||| (x1.Value &&& x1.Mask)), Mask := (x0.Mask ||| x1.Mask) } : aa), true)
def fx (y105 : aa) (K0 : (List aa) → aa → (List aa)) : Nat → Int → (List aa) → aa → (List aa)
 | 0, x12_, zE127, zE108 => K0 zE127 zE108
 | m + 1, x12_, zE127, zE108 =>
   if (decide (0 ≤ x12_)) then
    if ((!decide ((y105.Mask &&& (1#64 <<< (BitVec.ofInt 64 x12_).toNat)) = 0#64)) && (decide ((zE108.Mask &&& (1#64 <<< (BitVec.ofInt 64 x12_).toNat)) = 0#64))) then
     fx y105 K0 m (wr (x12_ - 1)) (zE127 ++ ([({ Value := (zE108.Value ||| ((y105.Value &&& (1#64 <<< (BitVec.ofInt 64 x12_).toNat)) ^^^ (1#64 <<< (BitVec.ofInt 64 x12_).toNat))), Mask := (zE108.Mask ||| (1#64 <<< (BitVec.ofInt 64 x12_).toNat)) } : aa)] : List aa)) ({ Value := (zE108.Value ||| (y105.Value &&& (1#64 <<< (BitVec.ofInt 64 x12_).toNat))), Mask := (zE108.Mask ||| (1#64 <<< (BitVec.ofInt 64 x12_).toNat)) } : aa)
    else
    fx y105 K0 m (wr (x12_ - 1)) zE127 zE108
   else
   K0 zE127 zE108
def ni (x0 : aa) (x1 : aa) (x2 : Int) : (List aa) :=
 if ((decide (x2 < 1)) || (decide (64 < x2))) then
  ([] : List aa)
 else
 LET (me x0 x2) fun y103 =>
 LET (me x1 x2) fun y105 =>
 LET (fq y103 y105) fun y113 =>
 if y113 then
  ([] : List aa)
 else
 LET (jo y103 y105) fun y115 =>
 if (!y115.2) then
  ([y103] : List aa)
 else
 fx y105 (fun (zE127_137 : List aa) (zE108_137 : aa) =>
  zE127_137) (Int.toNat ((wr (x2 - 1)) + 1)) (wr (x2 - 1)) ([] : List aa) y103
def mc (x0 : List aa) (x2 : Int) (K0 : (List aa) → ((List aa) × Int)) : Nat → Int → (List aa) → ((List aa) × Int)
 | 0, x9_, zE104 => K0 zE104
 | m + 1, x9_, zE104 =>
   LET (py x2) fun y109 =>
   mc x0 x2 K0 m (x9_ + 1) (zE104 ++ ([({ Value := (ix x0 x9_).Value, Mask := (((ix x0 x9_).Mask) &&& y109) } : aa)] : List aa))
def jh (x1 : List aa) (x2 : Int) (x8_ : List aa) (x11_ : Int) (K4 : (List aa) → ((List aa) × Int)) : Nat → Int → (List aa) → ((List aa) × Int)
 | 0, x13_, zE121 => K4 zE121
 | m + 1, x13_, zE121 =>
   LET (ni (ix x8_ x13_) (ix x1 x11_) x2) fun y126 =>
   jh x1 x2 x8_ x11_ K4 m (x13_ + 1) (zE121 ++ y126)
def jk (x1 : List aa) (x2 : Int) (K2 : (List aa) → Int → ((List aa) × Int)) : Nat → (List aa) → Int → Int → ((List aa) × Int)
 | 0, x8_, x10_, x11_ => K2 x8_ x10_
 | m + 1, x8_, x10_, x11_ =>
   if ((decide (x11_ < (x1.length : Int))) && (decide (x10_ = 0))) then
    jh x1 x2 x8_ x11_ (fun (zE121_129 : List aa) =>
     LET (ki zE121_129) fun y131 =>
     jk x1 x2 K2 m y131.1 y131.2 (x11_ + 1)) (Int.toNat ((x8_.length : Int) - 0)) 0 ([] : List aa)
   else
   K2 x8_ x10_
def nh (x0 : List aa) (x1 : List aa) (x2 : Int) : (List aa) × Int :=
 if ((decide (x2 < 1)) || (decide (64 < x2))) then
  (([] : List aa), 10)
 else
 mc x0 x2 (fun (zE104_112 : List aa) =>
  LET (ki zE104_112) fun y114 =>
  jk x1 x2 (fun (x8_133 : List aa) (x10_133 : Int) =>
   if (!decide (x10_133 = 0)) then
    (([] : List aa), x10_133)
   else
   (x8_133, 0)) (Int.toNat ((x1.length : Int) - 0)) y114.1 y114.2 0) (Int.toNat ((x0.length : Int) - 0)) 0 ([] : List aa)
def mg (x0 : List Int) (x1 : Int) (K0 : Int → (List Int)) : Nat → Int → (List Int)
 | 0, x5_ => K0 x5_
 | m + 1, x5_ =>
   if ((decide (x5_ < (x0.length : Int))) && (decide ((ix x0 x5_) < x1))) then
    mg x0 x1 K0 m (x5_ + 1)
   else
   K0 x5_
def nu (x0 : List Int) (x1 : Int) : (List Int) :=
 mg x0 x1 (fun (x5_105 : Int) =>
  (((sub x0 0 x5_105) ++ ([x1] : List Int)) ++ (sub x0 x5_105 (x0.length : Int)))) (Int.toNat ((x0.length : Int) - 0)) 0
def ij (x0 : ab) (x1 : Int) (x2 : List av) (x10_ : Int) (K2 : (List aa) → ((List Int) × Int)) : Nat → Int → (List aa) → ((List Int) × Int)
 | 0, x12_, zE110 => K2 zE110
 | m + 1, x12_, zE110 =>
   LET (pd x0 x1 (ix x2 x12_) (ix x2 x10_)) fun y115 =>
   if y115 then
    LET (su x0 x1 ((ix x2 x12_).Entry)) fun y119 =>
    ij x0 x1 x2 x10_ K2 m (x12_ + 1) (zE110 ++ ([y119] : List aa))
   else
   ij x0 x1 x2 x10_ K2 m (x12_ + 1) zE110
def il (x0 : ab) (x1 : Int) (x2 : List av) (K0 : (List Int) → ((List Int) × Int)) : Nat → (List Int) → Int → ((List Int) × Int)
 | 0, x9_, x10_ => K0 x9_
 | m + 1, x9_, x10_ =>
   ij x0 x1 x2 x10_ (fun (zE110_123 : List aa) =>
    LET (su x0 x1 ((ix x2 x10_).Entry)) fun y127 =>
    LET (qp x0 x1) fun y130 =>
    LET (nh ([y127] : List aa) zE110_123 y130) fun y131 =>
    if (!decide (y131.2 = 0)) then
     (([] : List Int), y131.2)
    else
    if (decide ((y131.1.length : Int) = 0)) then
     LET (nu x9_ ((ix x2 x10_).ID)) fun y136 =>
     il x0 x1 x2 K0 m y136 (x10_ + 1)
    else
    il x0 x1 x2 K0 m x9_ (x10_ + 1)) (Int.toNat ((x2.length : Int) - 0)) 0 ([] : List aa)
def nj (x0 : ab) (x1 : Int) (x2 : List av) : (List Int) × Int :=
 LET (gz x0 x1 x2) fun y101 =>
 if (!decide (y101 = 0)) then
  (([] : List Int), y101)
 else
 if (decide ((((ix x0.Tables x1).Keys).length : Int) = 0)) then
  (([] : List Int), 0)
 else
 il x0 x1 x2 (fun (x9_138 : List Int) =>
  (x9_138, 0)) (Int.toNat ((x2.length : Int) - 0)) ([] : List Int) 0
def ju (x0 : List Int) (x1 : List Int) (K0 : Unit → Bool) : Nat → Int → Bool
 | 0, x5_ => K0 ()
 | m + 1, x5_ =>
   if (!decide ((ix x0 x5_) = (ix x1 x5_))) then
    false
   else
   ju x0 x1 K0 m (x5_ + 1)
def pv (x0 : List Int) (x1 : List Int) : Bool :=
 if (!decide ((x0.length : Int) = (x1.length : Int))) then
  false
 else
 ju x0 x1 (fun (_ : Unit) =>
  true) (Int.toNat ((x0.length : Int) - 0)) 0
def lq (x0 : co) : Bool :=
 LET (kb x0) fun y101 =>
 if y101 then
  LET (pm) fun y103 =>
  y103
 else
 LET (kr x0.Program x0.Table x0.Rows) fun y106 =>
 LET (nj x0.Program x0.Table x0.Rows) fun y110 =>
 LET (pv y106.1 y110.1) fun y112 =>
 ((y112 && (decide (y106.2 = y110.2))) && (pm))
def zo (K0 : (BitVec 64) → Bool) : Nat → (BitVec 64) → Int → Bool
 | 0, x5_, x6_ => K0 x5_
 | m + 1, x5_, x6_ =>
   zo K0 m (2#64 * x5_) (x6_ + 1)
def bj5 (x0 : BitVec 32) (x1 : Int) : Bool :=
 zo (fun (x5_103 : BitVec 64) =>
  (decide ((BitVec.setWidth 64 x0) < x5_103))) (Int.toNat (x1 - 0)) 1#64 0
def vn (y102 : (List Int)) (x5_ : Int) (K2 : (BitVec 32) → (List (BitVec 32))) : Nat → (BitVec 32) → (List (BitVec 32))
 | 0, x6_ => K2 x6_
 | m + 1, x6_ =>
   LET (bj5 x6_ (ix y102 x5_)) fun y114 =>
   if (!y114) then
    vn y102 x5_ K2 m (x6_ / 2#32)
   else
   K2 x6_
def wd (x0 : co) (y102 : (List Int)) (K0 : (List (BitVec 32)) → (List (BitVec 32))) : Nat → Int → (List (BitVec 32)) → (List (BitVec 32))
 | 0, x5_, zE105 => K0 zE105
 | m + 1, x5_, zE105 =>
   LET (fun (x6_111 : BitVec 32) =>
    vn y102 x5_ (fun (x6_116 : BitVec 32) =>
     wd x0 y102 K0 m (x5_ + 1) (zE105 ++ ([x6_116] : List (BitVec 32)))) (Int.toNat ((x6_111.toNat : Int))) x6_111) fun k111 =>
   if (decide (x5_ < (x0.Key.length : Int))) then
    k111 (ix x0.Key x5_)
   else
   k111 0#32
def an9 (x0 : co) : (List (BitVec 32)) :=
 LET (du x0.Program x0.Table) fun y102 =>
 wd x0 y102 (fun (zE105_121 : List (BitVec 32)) =>
  zE105_121) (Int.toNat ((y102.length : Int) - 0)) 0 ([] : List (BitVec 32))
def ya (x0 : List Int) (x1 : Int) (K0 : Unit → Bool) : Nat → Int → Bool
 | 0, x5_ => K0 ()
 | m + 1, x5_ =>
   if (decide ((ix x0 x5_) = x1)) then
    true
   else
   ya x0 x1 K0 m (x5_ + 1)
def ag0 (x0 : List Int) (x1 : Int) : Bool :=
 ya x0 x1 (fun (_ : Unit) =>
  false) (Int.toNat ((x0.length : Int) - 0)) 0
def qq (x0 : co) (y106 : (List Int) × Int) (K0 : (List av) → Bool) : Nat → Int → (List av) → Bool
 | 0, x7_, zE113 => K0 zE113
 | m + 1, x7_, zE113 =>
   LET (ag0 y106.1 ((ix x0.Rows x7_).ID)) fun y120 =>
   if (!y120) then
    qq x0 y106 K0 m (x7_ + 1) (zE113 ++ ([(ix x0.Rows x7_)] : List av))
   else
   qq x0 y106 K0 m (x7_ + 1) zE113
def bn6 (x0 : co) : Bool :=
 LET (kb x0) fun y101 =>
 if y101 then
  LET (pm) fun y103 =>
  y103
 else
 LET (kr x0.Program x0.Table x0.Rows) fun y106 =>
 if (!decide (y106.2 = 0)) then
  LET (pm) fun y109 =>
  y109
 else
 LET (an9 x0) fun y110 =>
 qq x0 y106 (fun (zE113_126 : List av) =>
  LET (xv x0.Program x0.Table x0.Rows y110) fun y129 =>
  LET (xv x0.Program x0.Table zE113_126 y110) fun y137 =>
  LET (bd4 y129.1 y137.1) fun y142 =>
  (((y142 && (decide (y129.2 = y137.2))) && ((!y129.2) || (!(ag0 y106.1 y129.1.ID)))) && (pm))) (Int.toNat ((x0.Rows.length : Int) - 0)) 0 ([] : List av)
def bc4 (x0 : co) : Bool := true
end Go.Proofs.YthdnpgpnodgicaaGreat
