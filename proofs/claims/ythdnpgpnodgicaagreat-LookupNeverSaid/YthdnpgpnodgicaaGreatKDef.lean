import Derived.Test.YthdnpgpnodgicaaGreatKTy
import Derived.Test.YthdnpgpnodgicaaGreatPbC
set_option linter.all false
set_option maxRecDepth 100000
namespace Go.Proofs.YthdnpgpnodgicaaGreat
open Go Go.Pb Go.RowKit
def py (x0 : List aj) (x1 : Int) (rec_ : (List aj) → Int → Int) (K0 : Int → Int) : Nat → Int → Int → Int
 | 0, x5_, x6_ => K0 x5_
 | m + 1, x5_, x6_ =>
   if ((decide (x6_ < (x0.length : Int))) && (decide (x5_ < 100))) then
    if ((decide (x1 = 0)) || (decide (40 < (((ix x0 x6_).Cond).length : Int)))) then
     100
    else
    LET (rec_ ((ix x0 x6_).Then) (wr (x1 - 1))) fun y111 =>
    LET (rec_ ((ix x0 x6_).Else) (wr (x1 - 1))) fun y114 =>
    py x0 x1 rec_ K0 m (wr ((wr (x5_ + y111)) + y114)) (x6_ + 1)
   else
   K0 x5_
def sy (rec_ : (List aj) → Int → Int) (x0 : List aj) (x1 : Int) : Int :=
 py x0 x1 rec_ (fun (x5_115 : Int) =>
  x5_115) (Int.toNat ((x0.length : Int) - 0)) (x0.length : Int) 0
def pj : Nat → (List aj) → Int → Int
 | 0, _, _ => default
 | n_ + 1, x0, x1 => sy (pj n_) x0 x1
def pw (x0 : List aj) (x1 : Int) : Int := pj (x1.toNat + 1) x0 x1
def pv (x0 : cv) (K0 : Unit → Bool) : Nat → Int → Bool
 | 0, x3_ => K0 ()
 | m + 1, x3_ =>
   if (decide (30 < (((ix x0.Fields x3_).Name).length : Int))) then
    false
   else
   pv x0 K0 m (x3_ + 1)
def yi (x0 : cv) : Bool :=
 if ((decide (30 < (x0.Name.length : Int))) || (decide (20 < (x0.Fields.length : Int)))) then
  false
 else
 pv x0 (fun (_ : Unit) =>
  true) (Int.toNat ((x0.Fields.length : Int) - 0)) 0
def ld (x0 : cz) (K0 : Unit → Bool) : Nat → Int → Bool
 | 0, x3_ => K0 ()
 | m + 1, x3_ =>
   if ((decide (40 < (((ix x0.Body x3_).Index).length : Int))) || (decide (40 < (((ix x0.Body x3_).Value).length : Int)))) then
    true
   else
   ld x0 K0 m (x3_ + 1)
def rz (x0 : cz) : Bool :=
 if (((decide (8 < (x0.Params.length : Int))) || (decide (16 < (x0.Body.length : Int)))) || (decide (60 < (x0.Name.length : Int)))) then
  true
 else
 ld x0 (fun (_ : Unit) =>
  false) (Int.toNat ((x0.Body.length : Int) - 0)) 0
def sw (x0 : ct) : Bool :=
 (((decide (8 < (x0.Extract.length : Int))) || (decide (12 < (x0.Cases.length : Int)))) || (decide (60 < (x0.Name.length : Int))))
def nj (x0 : aa) (K0 : Unit → Bool) : Nat → Int → Bool
 | 0, x3_ => K0 ()
 | m + 1, x3_ =>
   LET (yi (ix x0.Headers x3_)) fun y125 =>
   if (!y125) then
    true
   else
   nj x0 K0 m (x3_ + 1)
def nh (x0 : aa) (K2 : Unit → Bool) : Nat → Int → Bool
 | 0, x4_ => K2 ()
 | m + 1, x4_ =>
   LET (rz (ix x0.Actions x4_)) fun y134 =>
   if y134 then
    true
   else
   nh x0 K2 m (x4_ + 1)
def nf (x0 : aa) (K4 : Unit → Bool) : Nat → Int → Bool
 | 0, x5_ => K4 ()
 | m + 1, x5_ =>
   if ((((decide (10 < (((ix x0.Tables x5_).Keys).length : Int))) || (decide (24 < (((ix x0.Tables x5_).Actions).length : Int)))) || (decide (8 < ((((ix x0.Tables x5_).Default).Args).length : Int)))) || (decide (60 < (((ix x0.Tables x5_).Name).length : Int)))) then
    true
   else
   nf x0 K4 m (x5_ + 1)
def ni (x0 : aa) (K6 : Unit → Bool) : Nat → Int → Bool
 | 0, x6_ => K6 ()
 | m + 1, x6_ =>
   LET (sw (ix x0.States x6_)) fun y164 =>
   if y164 then
    true
   else
   ni x0 K6 m (x6_ + 1)
def nz (x0 : aa) : Bool :=
 if (((((((((decide (60 < (x0.Name.length : Int))) || (decide (16 < (x0.Headers.length : Int)))) || (decide (20 < (x0.Metadata.length : Int)))) || (decide (8 < (x0.Registers.length : Int)))) || (decide (24 < (x0.Actions.length : Int)))) || (decide (16 < (x0.Tables.length : Int)))) || (decide (16 < (x0.States.length : Int)))) || (decide (16 < (x0.Deparser.length : Int)))) || (decide (60 < (pw x0.Control 10)))) then
  true
 else
 nj x0 (fun (_ : Unit) =>
  nh x0 (fun (_ : Unit) =>
   nf x0 (fun (_ : Unit) =>
    ni x0 (fun (_ : Unit) =>
     false) (Int.toNat ((x0.States.length : Int) - 0)) 0) (Int.toNat ((x0.Tables.length : Int) - 0)) 0) (Int.toNat ((x0.Actions.length : Int) - 0)) 0) (Int.toNat ((x0.Headers.length : Int) - 0)) 0
def ke (x0 : bm) (K0 : Unit → Bool) : Nat → Int → Bool
 | 0, x3_ => K0 ()
 | m + 1, x3_ =>
   if ((decide (20 < ((((ix x0.Rows x3_).Entry).Keys).length : Int))) || (decide (20 < (((((ix x0.Rows x3_).Entry).Call).Args).length : Int)))) then
    true
   else
   ke x0 K0 m (x3_ + 1)
def im (x0 : bm) : Bool :=
 LET (nz x0.Program) fun y102 =>
 if ((y102 || (decide (30 < (x0.Rows.length : Int)))) || (decide (20 < (x0.Key.length : Int)))) then
  true
 else
 ke x0 (fun (_ : Unit) =>
  false) (Int.toNat ((x0.Rows.length : Int) - 0)) 0
def lb : Bool := true
def iy (x0 : av) (x1 : List (BitVec 32)) (K0 : Unit → Bool) : Nat → Int → Bool
 | 0, x16_ => K0 ()
 | m + 1, x16_ =>
   if (!decide ((((ix x1 x16_) ^^^ ((ix x0.Keys x16_).Value)) &&& ((ix x0.Keys x16_).Mask)) = 0#32)) then
    false
   else
   iy x0 x1 K0 m (x16_ + 1)
def cq (x0 : av) (x1 : List (BitVec 32)) : Bool :=
 if (!decide ((x1.length : Int) = (x0.Keys.length : Int))) then
  false
 else
 iy x0 x1 (fun (_ : Unit) =>
  true) (Int.toNat ((x0.Keys.length : Int) - 0)) 0
def fq (x0 : List ak) (x1 : ak → Bool) (K0 : ak → (ak × Bool)) : Nat → Int → ak → (ak × Bool)
 | 0, x11_, zE102 => K0 zE102
 | m + 1, x11_, zE102 =>
   if (x1 (ix x0 x11_)) then
    ((ix x0 x11_), true)
   else
   fq x0 x1 K0 m (x11_ + 1) zE102
def da (x0 : List ak) (x1 : ak → Bool) : ak × Bool :=
 fq x0 x1 (fun (zE102_112 : ak) =>
  (({ ID := 0, Entry := ({ Keys := ([] : List bb), Priority := 0, Call := ({ Action := 0, Args := ([] : List (BitVec 32)) } : ax) } : av) } : ak), false)) (Int.toNat ((x0.length : Int) - 0)) 0 ({ ID := 0, Entry := ({ Keys := ([] : List bb), Priority := 0, Call := ({ Action := 0, Args := ([] : List (BitVec 32)) } : ax) } : av) } : ak)
def ji (x0 : BitVec 32) (K0 : Int → Int) : Nat → Int → Int → Int
 | 0, x3_, x5_ => K0 x3_
 | m + 1, x3_, x5_ =>
   ji x0 K0 m (wr (x3_ + (((x0 >>> x5_.toNat) &&& 1#32).toNat : Int))) (x5_ + 1)
def ny (x0 : BitVec 32) : Int :=
 ji x0 (fun (x3_103 : Int) =>
  x3_103) (Int.toNat (32 - 0)) 0 0
def lj (x0 : aa) (x1 : Int) (x2 : av) (K0 : Unit → Int) : Nat → Int → Int
 | 0, x25_ => K0 ()
 | m + 1, x25_ =>
   if (decide (((ix ((ix x0.Tables x1).Keys) x25_).Kind) = 2)) then
    if (decide (x25_ < (x2.Keys.length : Int))) then
     LET (ny ((ix x2.Keys x25_).Mask)) fun y118 =>
     y118
    else
    0
   else
   lj x0 x1 x2 K0 m (x25_ + 1)
def jq (x0 : aa) (x1 : Int) (x2 : av) : Int :=
 if ((decide (x1 < 0)) || (decide ((x0.Tables.length : Int) ≤ x1))) then
  0
 else
 lj x0 x1 x2 (fun (_ : Unit) =>
  0) (Int.toNat ((((ix x0.Tables x1).Keys).length : Int) - 0)) 0
def dk (x0 : aa) (x1 : Int) (x2 : ak) (x3 : ak) : Bool :=
 if (!decide (x2.Entry.Priority = x3.Entry.Priority)) then
  (decide (x3.Entry.Priority < x2.Entry.Priority))
 else
 LET (jq x0 x1 x2.Entry) fun y107 =>
 LET (jq x0 x1 x3.Entry) fun y109 =>
 if (!decide (y107 = y109)) then
  (decide (y109 < y107))
 else
 (decide (x2.ID < x3.ID))
def jm (x0 : aa) (x1 : Int) (x2 : List ak) (x3 : List (BitVec 32)) : ak × Bool :=
 if decide (x1 < 0) || decide ((x0.Tables.length : Int) ≤ x1) then (({ ID := 0, Entry := ({ Keys := ([] : List bb), Priority := 0, Call := ({ Action := 0, Args := ([] : List (BitVec 32)) } : ax) } : av) } : ak), false)
 else da x2 (fun r => cq r.Entry x3 && !(da x2 (fun x => cq x.Entry x3 && dk x0 x1 x r)).2)
def ql (x0 : av) (x1 : List (BitVec 32)) (K0 : Unit → Bool) : Nat → Int → Bool
 | 0, x5_ => K0 ()
 | m + 1, x5_ =>
   if (!decide ((((ix x1 x5_) ^^^ ((ix x0.Keys x5_).Value)) &&& ((ix x0.Keys x5_).Mask)) = 0#32)) then
    false
   else
   ql x0 x1 K0 m (x5_ + 1)
def vz (x0 : av) (x1 : List (BitVec 32)) : Bool :=
 if (!decide ((x0.Keys.length : Int) = (x1.length : Int))) then
  false
 else
 ql x0 x1 (fun (_ : Unit) =>
  true) (Int.toNat ((x1.length : Int) - 0)) 0
def oq (K0 : Int → Int) : Nat → (BitVec 32) → Int → Int → Int
 | 0, x0_, x3_, x4_ => K0 x3_
 | m + 1, x0_, x3_, x4_ =>
   oq K0 m (x0_ / 2#32) (wr (x3_ + ((x0_ % 2#32).toNat : Int))) (x4_ + 1)
def tj (x0 : BitVec 32) : Int :=
 oq (fun (x3_103 : Int) =>
  x3_103) (Int.toNat (32 - 0)) x0 0 0
def nr (x0 : aa) (x1 : Int) (x2 : av) (K0 : Unit → Int) : Nat → Int → Int
 | 0, x7_ => K0 ()
 | m + 1, x7_ =>
   if (decide (((ix ((ix x0.Tables x1).Keys) x7_).Kind) = 2)) then
    if (decide ((x2.Keys.length : Int) ≤ x7_)) then
     0
    else
    LET (tj ((ix x2.Keys x7_).Mask)) fun y121 =>
    y121
   else
   nr x0 x1 x2 K0 m (x7_ + 1)
def qi (x0 : aa) (x1 : Int) (x2 : av) : Int :=
 if ((decide (x1 < 0)) || (decide ((x0.Tables.length : Int) ≤ x1))) then
  0
 else
 nr x0 x1 x2 (fun (_ : Unit) =>
  0) (Int.toNat ((((ix x0.Tables x1).Keys).length : Int) - 0)) 0
def rj (x0 : aa) (x1 : Int) (x2 : ak) (x3 : ak) : Bool :=
 LET (qi x0 x1 x2.Entry) fun y102 =>
 LET (qi x0 x1 x3.Entry) fun y104 =>
 if (!decide (x2.Entry.Priority = x3.Entry.Priority)) then
  (decide (x3.Entry.Priority < x2.Entry.Priority))
 else
 if (!decide (y102 = y104)) then
  (decide (y104 < y102))
 else
 (decide (x2.ID < x3.ID))
def pg (x0 : aa) (x1 : Int) (x2 : List ak) (x3 : List (BitVec 32)) (K0 : Bool → ak → (ak × Bool)) : Nat → Bool → Int → ak → (ak × Bool)
 | 0, x11_, x12_, zE104 => K0 x11_ zE104
 | m + 1, x11_, x12_, zE104 =>
   if (((decide (x12_ < (x2.length : Int))) && (decide (0 ≤ x1))) && (decide (x1 < (x0.Tables.length : Int)))) then
    LET (vz ((ix x2 x12_).Entry) x3) fun y117 =>
    if (y117 && ((!x11_) || (rj x0 x1 (ix x2 x12_) zE104))) then
     pg x0 x1 x2 x3 K0 m true (x12_ + 1) (ix x2 x12_)
    else
    pg x0 x1 x2 x3 K0 m x11_ (x12_ + 1) zE104
   else
   K0 x11_ zE104
def qh (x0 : aa) (x1 : Int) (x2 : List ak) (x3 : List (BitVec 32)) : ak × Bool :=
 pg x0 x1 x2 x3 (fun (x11_125 : Bool) (zE104_125 : ak) =>
  (zE104_125, x11_125)) (Int.toNat ((x2.length : Int) - 0)) false 0 ({ ID := 0, Entry := ({ Keys := ([] : List bb), Priority := 0, Call := ({ Action := 0, Args := ([] : List (BitVec 32)) } : ax) } : av) } : ak)
def jc (x0 : av) (x1 : av) (K0 : Unit → Bool) : Nat → Int → Bool
 | 0, x5_ => K0 ()
 | m + 1, x5_ =>
   if (!decide ((ix x0.Keys x5_) = (ix x1.Keys x5_))) then
    false
   else
   jc x0 x1 K0 m (x5_ + 1)
def ly (x0 : av) (x1 : av) : Bool :=
 if ((!decide ((x0.Keys.length : Int) = (x1.Keys.length : Int))) || (!decide (x0.Priority = x1.Priority))) then
  false
 else
 jc x0 x1 (fun (_ : Unit) =>
  true) (Int.toNat ((x0.Keys.length : Int) - 0)) 0
def jg (x0 : ax) (x1 : ax) (K0 : Unit → Bool) : Nat → Int → Bool
 | 0, x5_ => K0 ()
 | m + 1, x5_ =>
   if (!decide ((ix x0.Args x5_) = (ix x1.Args x5_))) then
    false
   else
   jg x0 x1 K0 m (x5_ + 1)
def oc (x0 : ax) (x1 : ax) : Bool :=
 if ((!decide (x0.Action = x1.Action)) || (!decide ((x0.Args.length : Int) = (x1.Args.length : Int)))) then
  false
 else
 jg x0 x1 (fun (_ : Unit) =>
  true) (Int.toNat ((x0.Args.length : Int) - 0)) 0
def td (x0 : av) (x1 : av) : Bool :=
 LET (ly x0 x1) fun y101 =>
 (y101 && (oc x0.Call x1.Call))
def rh (x0 : ak) (x1 : ak) : Bool :=
 ((decide (x0.ID = x1.ID)) && (td x0.Entry x1.Entry))
def bu5 (x0 : bm) : Bool :=
 LET (im x0) fun y101 =>
 if y101 then
  LET (lb) fun y103 =>
  y103
 else
 LET (jm x0.Program x0.Table x0.Rows x0.Key) fun y107 =>
 LET (qh x0.Program x0.Table x0.Rows x0.Key) fun y115 =>
 LET (rh y107.1 y115.1) fun y120 =>
 ((y120 && (decide (y107.2 = y115.2))) && (lb))
def nd (x0 : UInt8) : Bool :=
 (((decide ((97 : UInt8) ≤ x0)) && (decide (x0 ≤ (122 : UInt8)))) || ((decide ((65 : UInt8) ≤ x0)) && (decide (x0 ≤ (90 : UInt8)))))
def qf (x0 : UInt8) : Bool :=
 ((decide ((48 : UInt8) ≤ x0)) && (decide (x0 ≤ (57 : UInt8))))
def gz (x0 : List UInt8) (K0 : Unit → Bool) : Nat → Int → Bool
 | 0, x3_ => K0 ()
 | m + 1, x3_ =>
   LET (nd (ix x0 x3_)) fun y107 =>
   if (((!y107) && (!(qf (ix x0 x3_)))) && (!decide ((ix x0 x3_) = (95 : UInt8)))) then
    false
   else
   gz x0 K0 m (x3_ + 1)
def mg (x0 : List UInt8) : Bool :=
 if (((decide (x0 = ([] : List UInt8))) || (decide (16 < (x0.length : Int)))) || (!(nd (ix x0 0)))) then
  false
 else
 gz x0 (fun (_ : Unit) =>
  true) (Int.toNat ((x0.length : Int) - 0)) 0
def iq (x0 : aa) (x1 : cm) : Int :=
 LET (fun (x5_108 : List cd) =>
  if (((((decide (x1.Header < (-1))) || (decide (x1.Field < 0))) || (decide ((x5_108.length : Int) ≤ x1.Field))) || (decide (((ix x5_108 x1.Field).Width) < 1))) || (decide (32 < ((ix x5_108 x1.Field).Width)))) then
   0
  else
  (ix x5_108 x1.Field).Width) fun k108 =>
 if (decide (0 ≤ x1.Header)) then
  if (decide ((x0.Headers.length : Int) ≤ x1.Header)) then
   0
  else
  k108 ((ix x0.Headers x1.Header).Fields)
 else
 k108 x0.Metadata
def ka (x0 : aa) (x1 : az) (K0 : Int → Int → (Int × Int)) : Nat → Int → Int → Int → (Int × Int)
 | 0, x6_, x7_, x8_ => K0 x6_ x7_
 | m + 1, x6_, x7_, x8_ =>
   LET (iq x0 ((ix x1.Keys x8_).Field)) fun y108 =>
   if (decide (y108 = 0)) then
    (x8_, 8)
   else
   if (((!decide (((ix x1.Keys x8_).Kind) = 1)) && (!decide (((ix x1.Keys x8_).Kind) = 2))) && (!decide (((ix x1.Keys x8_).Kind) = 3))) then
    (x8_, 11)
   else
   if (decide (((ix x1.Keys x8_).Kind) = 2)) then
    ka x0 x1 K0 m (wr (x6_ + y108)) (wr (x7_ + 1)) (x8_ + 1)
   else
   ka x0 x1 K0 m (wr (x6_ + y108)) x7_ (x8_ + 1)
def qv (x0 : aa) (x1 : az) : Int × Int :=
 ka x0 x1 (fun (x6_116 : Int) (x7_116 : Int) =>
  if (decide (1 < x7_116)) then
   ((-2), 7)
  else
  if (decide (64 < x6_116)) then
   ((-2), 10)
  else
  (0, 0)) (Int.toNat ((x1.Keys.length : Int) - 0)) 0 0 0
def ir (x0 : List Int) (x1 : Int) (K0 : Unit → Int) : Nat → Int → Int
 | 0, x5_ => K0 ()
 | m + 1, x5_ =>
   if (decide ((ix x0 x5_) = x1)) then
    x5_
   else
   ir x0 x1 K0 m (x5_ + 1)
def gw (x0 : List Int) (x1 : Int) : Int :=
 ir x0 x1 (fun (_ : Unit) =>
  (-1)) (Int.toNat ((x0.length : Int) - 0)) 0
def gm (x0 : Int) : Bool :=
 ((decide (1 ≤ x0)) && (decide (x0 ≤ 32)))
def qe (K0 : (BitVec 64) → (BitVec 64)) : Nat → (BitVec 64) → Int → (BitVec 64)
 | 0, x3_, x4_ => K0 x3_
 | m + 1, x3_, x4_ =>
   qe K0 m (2#64 * x3_) (x4_ + 1)
def lz (x0 : Int) : (BitVec 64) :=
 qe (fun (x3_103 : BitVec 64) =>
  x3_103) (Int.toNat (x0 - 0)) 1#64 0
def mh (x0 : BitVec 32) (x1 : Int) : Bool :=
 LET (gm x1) fun y101 =>
 (y101 && (decide ((BitVec.setWidth 64 x0) < (lz x1))))
def js (x0 : aa) (x1 : ax) (K0 : Unit → Int) : Nat → Int → Int
 | 0, x6_ => K0 ()
 | m + 1, x6_ =>
   LET (mh (ix x1.Args x6_) ((ix ((ix x0.Actions x1.Action).Params) x6_).Width)) fun y113 =>
   if (!y113) then
    9
   else
   js x0 x1 K0 m (x6_ + 1)
def mz (x0 : aa) (x1 : ax) : Int :=
 if ((decide (x1.Action < 0)) || (decide ((x0.Actions.length : Int) ≤ x1.Action))) then
  8
 else
 if (!decide ((x1.Args.length : Int) = (((ix x0.Actions x1.Action).Params).length : Int))) then
  2
 else
 js x0 x1 (fun (_ : Unit) =>
  0) (Int.toNat ((((ix x0.Actions x1.Action).Params).length : Int) - 0)) 0
def jy (x0 : aa) (x1 : az) (K0 : Unit → Int) : Nat → Int → Int
 | 0, x5_ => K0 ()
 | m + 1, x5_ =>
   if ((decide ((ix x1.Actions x5_) < 0)) || (decide ((x0.Actions.length : Int) ≤ (ix x1.Actions x5_)))) then
    8
   else
   LET (gw x1.Actions (ix x1.Actions x5_)) fun y112 =>
   if (decide (y112 < x5_)) then
    7
   else
   jy x0 x1 K0 m (x5_ + 1)
def qt (x0 : aa) (x1 : az) : Int :=
 jy x0 x1 (fun (_ : Unit) =>
  LET (gw x1.Actions x1.Default.Action) fun y117 =>
  if (decide (y117 < 0)) then
   8
  else
  LET (mz x0 x1.Default) fun y120 =>
  y120) (Int.toNat ((x1.Actions.length : Int) - 0)) 0
def gn (x0 : aa) (x1 : Int) : Int × Int :=
 if ((decide (x1 < 0)) || (decide ((x0.Tables.length : Int) ≤ x1))) then
  ((-1), 8)
 else
 LET (mg ((ix x0.Tables x1).Name)) fun y109 =>
 if (!y109) then
  ((-1), 6)
 else
 if ((decide (6 < (((ix x0.Tables x1).Keys).length : Int))) || (decide (16 < (((ix x0.Tables x1).Actions).length : Int)))) then
  ((-1), 12)
 else
 if ((decide (((ix x0.Tables x1).Size) < 1)) || (decide (256 < ((ix x0.Tables x1).Size)))) then
  ((-1), 9)
 else
 LET (qv x0 (ix x0.Tables x1)) fun y117 =>
 if (!decide (y117.2 = 0)) then
  (y117.1, y117.2)
 else
 LET (qt x0 (ix x0.Tables x1)) fun y119 =>
 if (!decide (y119 = 0)) then
  ((-3), y119)
 else
 (0, 0)
def fu (x0 : aa) (x1 : Int) : Bool :=
 LET (gn x0 x1) fun y101 =>
 (decide (y101.2 = 0))
def kg (x0 : aa) (x1 : Int) (K0 : (List Int) → (List Int)) : Nat → Int → (List Int) → (List Int)
 | 0, x6_, zE104 => K0 zE104
 | m + 1, x6_, zE104 =>
   LET (iq x0 ((ix ((ix x0.Tables x1).Keys) x6_).Field)) fun y118 =>
   kg x0 x1 K0 m (x6_ + 1) (zE104 ++ ([y118] : List Int))
def bp (x0 : aa) (x1 : Int) : (List Int) :=
 LET (fu x0 x1) fun y101 =>
 if (!y101) then
  ([] : List Int)
 else
 kg x0 x1 (fun (zE104_121 : List Int) =>
  zE104_121) (Int.toNat ((((ix x0.Tables x1).Keys).length : Int) - 0)) 0 ([] : List Int)
def sv (x0 : Int) (x1 : Int) : (BitVec 32) :=
 LET (gm x1) fun y101 =>
 if (!y101) then
  0#32
 else
 LET (lz x1) fun y103 =>
 LET (lz (wr (x1 - (min (max x0 0) x1)))) fun y104 =>
 (BitVec.setWidth 32 (y103 - y104))
def mf (x0 : BitVec 32) (x1 : Int) (K0 : Unit → (Int × Bool)) : Nat → Int → (Int × Bool)
 | 0, x6_ => K0 ()
 | m + 1, x6_ =>
   if ((decide (x6_ ≤ x1)) && (gm x1)) then
    LET (sv x6_ x1) fun y107 =>
    if (decide (y107 = x0)) then
     (x6_, true)
    else
    mf x0 x1 K0 m (x6_ + 1)
   else
   K0 ()
def pe (x0 : BitVec 32) (x1 : Int) : Int × Bool :=
 mf x0 x1 (fun (_ : Unit) =>
  (0, false)) (Int.toNat ((x1 + 1) - 0)) 0
def qd (x0 : Int) : (BitVec 32) :=
 LET (gm x0) fun y101 =>
 if (!y101) then
  0#32
 else
 LET (lz x0) fun y103 =>
 (BitVec.setWidth 32 (y103 - 1#64))
def mm (x0 : bb) (x1 : Int) (x2 : Int) : Int :=
 LET (pe x0.Mask x1) fun y101 =>
 LET (mh x0.Value x1) fun y102 =>
 if ((!y102) || (!(mh x0.Mask x1))) then
  9
 else
 if (!decide ((x0.Value &&& x0.Mask) = x0.Value)) then
  5
 else
 if (((decide (x2 = 1)) && (!decide (x0.Mask = (qd x1)))) || ((decide (x2 = 2)) && (!y101.2))) then
  11
 else
 0
def pm (x0 : aa) (x1 : Int) (K0 : Int → Int) : Nat → Int → Int → Int
 | 0, x5_, x6_ => K0 x5_
 | m + 1, x5_, x6_ =>
   pm x0 x1 K0 m (max x5_ ((ix ((ix x0.Tables x1).Keys) x6_).Kind)) (x6_ + 1)
def uo (x0 : aa) (x1 : Int) : Int :=
 LET (fu x0 x1) fun y101 =>
 if (!y101) then
  0
 else
 pm x0 x1 (fun (x5_115 : Int) =>
  x5_115) (Int.toNat ((((ix x0.Tables x1).Keys).length : Int) - 0)) 1 0
def xl (x0 : aa) (x1 : Int) (x2 : Int) : Bool :=
 LET (fu x0 x1) fun y101 =>
 (y101 && (decide (0 ≤ (gw ((ix x0.Tables x1).Actions) x2))))
def od (x0 : aa) (x1 : Int) (x2 : av) (y103 : (List Int)) (K0 : Unit → Int) : Nat → Int → Int
 | 0, x10_ => K0 ()
 | m + 1, x10_ =>
   LET (mm (ix x2.Keys x10_) (ix y103 x10_) ((ix ((ix x0.Tables x1).Keys) x10_).Kind)) fun y115 =>
   if (!decide (y115 = 0)) then
    y115
   else
   od x0 x1 x2 y103 K0 m (x10_ + 1)
def ol (x0 : aa) (x1 : Int) (x2 : av) : Int :=
 LET (gn x0 x1) fun y101 =>
 if (!decide (y101.2 = 0)) then
  y101.2
 else
 LET (bp x0 x1) fun y103 =>
 if (!decide ((x2.Keys.length : Int) = (y103.length : Int))) then
  2
 else
 od x0 x1 x2 y103 (fun (_ : Unit) =>
  if ((decide (x2.Priority < 0)) || (decide (255 < x2.Priority))) then
   9
  else
  if ((decide (0 < x2.Priority)) && (!decide ((uo x0 x1) = 3))) then
   11
  else
  LET (xl x0 x1 x2.Call.Action) fun y124 =>
  if (!y124) then
   8
  else
  LET (mz x0 x2.Call) fun y127 =>
  y127) (Int.toNat ((y103.length : Int) - 0)) 0
def qc (x2 : List ak) (x9_ : Int) (K2 : Unit → Int) : Nat → Int → Int
 | 0, x10_ => K2 ()
 | m + 1, x10_ =>
   if ((decide (((ix x2 x10_).ID) = ((ix x2 x9_).ID))) || (ly ((ix x2 x10_).Entry) ((ix x2 x9_).Entry))) then
    7
   else
   qc x2 x9_ K2 m (x10_ + 1)
def lh (x0 : aa) (x1 : Int) (x2 : List ak) (K0 : Unit → Int) : Nat → Int → Int
 | 0, x9_ => K0 ()
 | m + 1, x9_ =>
   LET (ol x0 x1 ((ix x2 x9_).Entry)) fun y107 =>
   if (!decide (y107 = 0)) then
    y107
   else
   qc x2 x9_ (fun (_ : Unit) =>
    lh x0 x1 x2 K0 m (x9_ + 1)) (Int.toNat (x9_ - 0)) 0
def oh (x0 : aa) (x1 : Int) (x2 : List ak) : Int :=
 LET (gn x0 x1) fun y101 =>
 if (!decide (y101.2 = 0)) then
  y101.2
 else
 lh x0 x1 x2 (fun (_ : Unit) =>
  0) (Int.toNat ((x2.length : Int) - 0)) 0
def lg (x0 : UInt8) : Bool :=
 (((decide ((97 : UInt8) ≤ x0)) && (decide (x0 ≤ (122 : UInt8)))) || ((decide ((65 : UInt8) ≤ x0)) && (decide (x0 ≤ (90 : UInt8)))))
def lq (x0 : List UInt8) (x1 : UInt8 → Bool) (K0 : Int → Int) : Nat → Int → Int
 | 0, x5_ => K0 x5_
 | m + 1, x5_ =>
   if ((decide (x5_ < (x0.length : Int))) && (x1 (ix x0 x5_))) then
    lq x0 x1 K0 m (x5_ + 1)
   else
   K0 x5_
def uc (x0 : List UInt8) (x1 : UInt8 → Bool) : Int :=
 lq x0 x1 (fun (x5_107 : Int) =>
  x5_107) (Int.toNat ((x0.length : Int) - 0)) 0
def mb (x0 : UInt8) : Bool :=
 ((decide ((48 : UInt8) ≤ x0)) && (decide (x0 ≤ (57 : UInt8))))
def jt (x0 : UInt8) : Bool :=
 LET (lg x0) fun y101 =>
 ((y101 || (mb x0)) || (decide (x0 = (95 : UInt8))))
def mq (x0 : List UInt8) : Bool :=
 if (((decide ((x0.length : Int) = 0)) || (decide (16 < (x0.length : Int)))) || (!(lg (ix x0 0)))) then
  false
 else
 LET (uc x0 jt) fun y105 =>
 (decide (y105 = (x0.length : Int)))
def ie (x0 : List cv) (x1 : Int) : cv :=
 if ((decide (x1 < 0)) || (decide ((x0.length : Int) ≤ x1))) then
  ({ Name := ([] : List UInt8), Fields := ([] : List cd) } : cv)
 else
 (ix x0 x1)
def ww (x0 : aa) (x1 : Int) : (List cd) :=
 if (decide (x1 = (-1))) then
  x0.Metadata
 else
 LET (ie x0.Headers x1) fun y104 =>
 y104.Fields
def md (x0 : List cd) (x1 : Int) : cd :=
 if ((decide (x1 < 0)) || (decide ((x0.length : Int) ≤ x1))) then
  ({ Name := ([] : List UInt8), Width := 0 } : cd)
 else
 (ix x0 x1)
def ll (x0 : List Int) (K0 : Unit → Bool) : Nat → Int → Bool
 | 0, x7_ => K0 ()
 | m + 1, x7_ =>
   if ((decide ((ix x0 x7_) < 1)) || (decide (32 < (ix x0 x7_)))) then
    false
   else
   ll x0 K0 m (x7_ + 1)
def ja (x0 : List Int) : Bool :=
 ll x0 (fun (_ : Unit) =>
  true) (Int.toNat ((x0.length : Int) - 0)) 0
def fa (x0 : Int) : (BitVec 32) :=
 LET (ja ([x0] : List Int)) fun y102 =>
 if (!y102) then
  0#32
 else
 (4294967295#32 >>> (wr (32 - x0)).toNat)
def qy (x0 : aa) (x1 : cm) : Int :=
 LET (ww x0 x1.Header) fun y101 =>
 LET (md y101 x1.Field) fun y103 =>
 LET (fa y103.Width) fun y105 =>
 if (decide (y105 = 0#32)) then
  0
 else
 y103.Width
def ik (x0 : aa) (x1 : az) (K0 : Int → Int → (Int × Int)) : Nat → Int → Int → Int → (Int × Int)
 | 0, x6_, x7_, x14_ => K0 x6_ x7_
 | m + 1, x6_, x7_, x14_ =>
   LET (qy x0 ((ix x1.Keys x14_).Field)) fun y109 =>
   if (decide (y109 = 0)) then
    (x14_, 8)
   else
   if (decide (((ix x1.Keys x14_).Kind) = 2)) then
    ik x0 x1 K0 m (wr (x6_ + 1)) (wr (x7_ + y109)) (x14_ + 1)
   else
   LET (fun (x33_113 : Bool) =>
    if x33_113 then
     ik x0 x1 K0 m x6_ (wr (x7_ + y109)) (x14_ + 1)
    else
    (x14_, 11)) fun k113 =>
   if (decide (((ix x1.Keys x14_).Kind) = 1)) then
    k113 (decide (((ix x1.Keys x14_).Kind) = 1))
   else
   k113 (decide (((ix x1.Keys x14_).Kind) = 3))
def mu (x0 : aa) (x1 : az) : Int × Int :=
 ik x0 x1 (fun (x6_116 : Int) (x7_116 : Int) =>
  if (decide (1 < x6_116)) then
   ((-2), 7)
  else
  if (decide (64 < x7_116)) then
   ((-2), 10)
  else
  (0, 0)) (Int.toNat ((x1.Keys.length : Int) - 0)) 0 0 0
def kh (x0 : BitVec 32) (x1 : Int) : Bool :=
 LET (ja ([x1] : List Int)) fun y102 =>
 (y102 && (decide (x0 ≤ (fa x1))))
def jf (x0 : aa) (x1 : ax) (K0 : Unit → Int) : Nat → Int → Int
 | 0, x35_ => K0 ()
 | m + 1, x35_ =>
   LET (kh (ix x1.Args x35_) ((ix ((ix x0.Actions x1.Action).Params) x35_).Width)) fun y113 =>
   if (!y113) then
    9
   else
   jf x0 x1 K0 m (x35_ + 1)
def mc (x0 : aa) (x1 : ax) : Int :=
 if ((decide (x1.Action < 0)) || (decide ((x0.Actions.length : Int) ≤ x1.Action))) then
  8
 else
 if (!decide ((x1.Args.length : Int) = (((ix x0.Actions x1.Action).Params).length : Int))) then
  2
 else
 jf x0 x1 (fun (_ : Unit) =>
  0) (Int.toNat ((x1.Args.length : Int) - 0)) 0
def gi (x0 : aa) (x1 : az) (K0 : (List (Int × Bool)) → Int) : Nat → Int → (List (Int × Bool)) → Int
 | 0, x12_, zE102 => K0 zE102
 | m + 1, x12_, zE102 =>
   if ((decide ((ix x1.Actions x12_) < 0)) || (decide ((x0.Actions.length : Int) ≤ (ix x1.Actions x12_)))) then
    8
   else
   if ((mget zE102 (ix x1.Actions x12_)).getD false) then
    7
   else
   gi x0 x1 K0 m (x12_ + 1) (mput zE102 (ix x1.Actions x12_) true)
def mo (x0 : aa) (x1 : az) : Int :=
 gi x0 x1 (fun (zE102_112 : List (Int × Bool)) =>
  if (!((mget zE102_112 x1.Default.Action).getD false)) then
   8
  else
  LET (mc x0 x1.Default) fun y117 =>
  y117) (Int.toNat ((x1.Actions.length : Int) - 0)) 0 ([] : List (Int × Bool))
def gy (x0 : aa) (x1 : Int) : Int × Int :=
 if ((decide (x1 < 0)) || (decide ((x0.Tables.length : Int) ≤ x1))) then
  ((-1), 8)
 else
 LET (mq ((ix x0.Tables x1).Name)) fun y109 =>
 if (!y109) then
  ((-1), 6)
 else
 if ((decide (6 < (((ix x0.Tables x1).Keys).length : Int))) || (decide (16 < (((ix x0.Tables x1).Actions).length : Int)))) then
  ((-1), 12)
 else
 if ((decide (((ix x0.Tables x1).Size) < 1)) || (decide (256 < ((ix x0.Tables x1).Size)))) then
  ((-1), 9)
 else
 LET (mu x0 (ix x0.Tables x1)) fun y117 =>
 if (!decide (y117.2 = 0)) then
  (y117.1, y117.2)
 else
 LET (mo x0 (ix x0.Tables x1)) fun y119 =>
 if (!decide (y119 = 0)) then
  ((-3), y119)
 else
 (0, 0)
def gh (x0 : aa) (x1 : Int) : Bool :=
 LET (gy x0 x1) fun y101 =>
 (decide (y101.2 = 0))
def ki (x0 : aa) (x1 : Int) (K0 : (List Int) → (List Int)) : Nat → Int → (List Int) → (List Int)
 | 0, x19_, zE107 => K0 zE107
 | m + 1, x19_, zE107 =>
   LET (qy x0 ((ix ((ix x0.Tables x1).Keys) x19_).Field)) fun y115 =>
   ki x0 x1 K0 m (x19_ + 1) (zE107 ++ ([y115] : List Int))
def ee (x0 : aa) (x1 : Int) : (List Int) :=
 LET (gh x0 x1) fun y101 =>
 if (!y101) then
  ([] : List Int)
 else
 ki x0 x1 (fun (zE107_118 : List Int) =>
  zE107_118) (Int.toNat ((((ix x0.Tables x1).Keys).length : Int) - 0)) 0 ([] : List Int)
def jo (x0 : Int) (x1 : Int) : (BitVec 32) :=
 LET (ja ([x1] : List Int)) fun y102 =>
 if (!y102) then
  0#32
 else
 LET (fa x1) fun y104 =>
 LET (fa x1) fun y105 =>
 (y104 &&& ~~~(y105 >>> (min (max x0 0) x1).toNat))
def fk (x0 : BitVec 32) (x1 : Int) (K0 : Unit → (Int × Bool)) : Nat → Int → (Int × Bool)
 | 0, x13_ => K0 ()
 | m + 1, x13_ =>
   LET (jo x13_ x1) fun y106 =>
   if (decide (y106 = x0)) then
    (x13_, true)
   else
   fk x0 x1 K0 m (x13_ + 1)
def ej (x0 : BitVec 32) (x1 : Int) : Int × Bool :=
 LET (ja ([x1] : List Int)) fun y102 =>
 if (!y102) then
  (0, false)
 else
 fk x0 x1 (fun (_ : Unit) =>
  (0, false)) (Int.toNat ((wr (x1 + 1)) - 0)) 0
def qb (x0 : bb) (x1 : Int) (x2 : Int) : Int :=
 LET (kh x0.Value x2) fun y101 =>
 if ((!y101) || (!(kh x0.Mask x2))) then
  9
 else
 if (!decide ((x0.Value &&& ~~~x0.Mask) = 0#32)) then
  5
 else
 if ((decide (x1 = 1)) && (!decide (x0.Mask = (fa x2)))) then
  11
 else
 LET (fun (_ : Unit) =>
  0) fun k112 =>
 if (decide (x1 = 2)) then
  LET (ej x0.Mask x2) fun y114 =>
  if (!y114.2) then
   11
  else
  k112 ()
 else
 k112 ()
def lw (x0 : aa) (x1 : Int) (K0 : Int → Int) : Nat → Int → Int → Int
 | 0, x5_, x19_ => K0 x5_
 | m + 1, x5_, x19_ =>
   if (decide (((ix ((ix x0.Tables x1).Keys) x19_).Kind) = 3)) then
    3
   else
   if (decide (((ix ((ix x0.Tables x1).Keys) x19_).Kind) = 2)) then
    lw x0 x1 K0 m 2 (x19_ + 1)
   else
   lw x0 x1 K0 m x5_ (x19_ + 1)
def il (x0 : aa) (x1 : Int) : Int :=
 LET (gh x0 x1) fun y101 =>
 if (!y101) then
  0
 else
 lw x0 x1 (fun (x5_114 : Int) =>
  x5_114) (Int.toNat ((((ix x0.Tables x1).Keys).length : Int) - 0)) 1 0
def kn (x0 : aa) (x1 : Int) (x2 : Int) (K0 : Unit → Bool) : Nat → Int → Bool
 | 0, x20_ => K0 ()
 | m + 1, x20_ =>
   if (decide ((ix ((ix x0.Tables x1).Actions) x20_) = x2)) then
    true
   else
   kn x0 x1 x2 K0 m (x20_ + 1)
def qn (x0 : aa) (x1 : Int) (x2 : Int) : Bool :=
 LET (gh x0 x1) fun y101 =>
 if (!y101) then
  false
 else
 kn x0 x1 x2 (fun (_ : Unit) =>
  false) (Int.toNat ((((ix x0.Tables x1).Actions).length : Int) - 0)) 0
def ml (x0 : aa) (x1 : Int) (x2 : av) (y106 : (List Int)) (K0 : Unit → Int) : Nat → Int → Int
 | 0, x41_ => K0 ()
 | m + 1, x41_ =>
   LET (qb (ix x2.Keys x41_) ((ix ((ix x0.Tables x1).Keys) x41_).Kind) (ix y106 x41_)) fun y118 =>
   if (!decide (y118 = 0)) then
    y118
   else
   ml x0 x1 x2 y106 K0 m (x41_ + 1)
def na (x0 : aa) (x1 : Int) (x2 : av) : Int :=
 LET (gy x0 x1) fun y101 =>
 if (!decide (y101.2 = 0)) then
  y101.2
 else
 LET (ee x0 x1) fun y106 =>
 if (!decide ((x2.Keys.length : Int) = (((ix x0.Tables x1).Keys).length : Int))) then
  2
 else
 ml x0 x1 x2 y106 (fun (_ : Unit) =>
  if ((decide (x2.Priority < 0)) || (decide (255 < x2.Priority))) then
   9
  else
  if ((!decide (x2.Priority = 0)) && (!decide ((il x0 x1) = 3))) then
   11
  else
  LET (qn x0 x1 x2.Call.Action) fun y127 =>
  if (!y127) then
   8
  else
  LET (mc x0 x2.Call) fun y130 =>
  y130) (Int.toNat ((x2.Keys.length : Int) - 0)) 0
def ku (x0 : av) (x1 : av) (K0 : Unit → Bool) : Nat → Int → Bool
 | 0, x24_ => K0 ()
 | m + 1, x24_ =>
   if (!decide ((ix x0.Keys x24_) = (ix x1.Keys x24_))) then
    false
   else
   ku x0 x1 K0 m (x24_ + 1)
def jp (x0 : av) (x1 : av) : Bool :=
 if ((!decide (x0.Priority = x1.Priority)) || (!decide ((x0.Keys.length : Int) = (x1.Keys.length : Int)))) then
  false
 else
 ku x0 x1 (fun (_ : Unit) =>
  true) (Int.toNat ((x0.Keys.length : Int) - 0)) 0
def nk (y101 : (List Int)) (K0 : Int → Int) : Nat → Int → Int → Int
 | 0, x5_, x12_ => K0 x5_
 | m + 1, x5_, x12_ =>
   nk y101 K0 m (wr (x5_ + (ix y101 x12_))) (x12_ + 1)
def lm (x0 : aa) (x1 : Int) : Int :=
 LET (ee x0 x1) fun y101 =>
 nk y101 (fun (x5_105 : Int) =>
  x5_105) (Int.toNat ((y101.length : Int) - 0)) 0 0
def lc (x0 : av) (x1 : List Int) (K0 : ae → ae) : Nat → Int → ae → ae
 | 0, x11_, zE104 => K0 zE104
 | m + 1, x11_, zE104 =>
   lc x0 x1 K0 m (x11_ + 1) ({ Value := ((zE104.Value <<< (ix x1 x11_).toNat) ||| (BitVec.setWidth 64 ((ix x0.Keys x11_).Value))), Mask := ((zE104.Mask <<< (ix x1 x11_).toNat) ||| (BitVec.setWidth 64 ((ix x0.Keys x11_).Mask))) } : ae)
def ip (x0 : av) (x1 : List Int) : ae :=
 lc x0 x1 (fun (zE104_116 : ae) =>
  zE104_116) (Int.toNat ((x0.Keys.length : Int) - 0)) 0 ({ Value := 0#64, Mask := 0#64 } : ae)
def ky (x0 : ae) (x1 : ae) : Bool :=
 ((decide ((x1.Mask &&& ~~~x0.Mask) = 0#64)) && (decide (((x0.Value ^^^ x1.Value) &&& x1.Mask) = 0#64)))
def gq (x0 : List ae) (x1 : Int) (K0 : Unit → Bool) : Nat → Int → Bool
 | 0, x9_ => K0 ()
 | m + 1, x9_ =>
   if ((decide (x9_ = x1)) || (!(ky (ix x0 x1) (ix x0 x9_)))) then
    gq x0 x1 K0 m (x9_ + 1)
   else
   LET (ky (ix x0 x9_) (ix x0 x1)) fun y112 =>
   if ((!y112) || (decide (x9_ < x1))) then
    true
   else
   gq x0 x1 K0 m (x9_ + 1)
def po (x0 : List ae) (x1 : Int) : Bool :=
 gq x0 x1 (fun (_ : Unit) =>
  false) (Int.toNat ((x0.length : Int) - 0)) 0
def gx (x0 : List ae) (K0 : (List ae) → (List ae)) : Nat → Int → (List ae) → (List ae)
 | 0, x8_, zE102 => K0 zE102
 | m + 1, x8_, zE102 =>
   LET (po x0 x8_) fun y109 =>
   if (!y109) then
    gx x0 K0 m (x8_ + 1) (zE102 ++ ([({ Value := (((ix x0 x8_).Value) &&& ((ix x0 x8_).Mask)), Mask := (ix x0 x8_).Mask } : ae)] : List ae))
   else
   gx x0 K0 m (x8_ + 1) zE102
def nu (x0 : List ae) : (List ae) :=
 gx x0 (fun (zE102_113 : List ae) =>
  zE102_113) (Int.toNat ((x0.length : Int) - 0)) 0 ([] : List ae)
def fi (x0 : List ae) : (List ae) × Int :=
 LET (nu x0) fun y101 =>
 if (decide (1024 < (y101.length : Int))) then
  (([] : List ae), 12)
 else
 (y101, 0)
def jh (x0 : List ae) (x1 : Int) (K0 : (List ae) → (List ae)) : Nat → Int → (List ae) → (List ae)
 | 0, x15_, zE102 => K0 zE102
 | m + 1, x15_, zE102 =>
   jh x0 x1 K0 m (x15_ + 1) (zE102 ++ ([({ Value := (((ix x0 x15_).Value) &&& (((ix x0 x15_).Mask) &&& (18446744073709551615#64 >>> (wr (64 - x1)).toNat))), Mask := (((ix x0 x15_).Mask) &&& (18446744073709551615#64 >>> (wr (64 - x1)).toNat)) } : ae)] : List ae))
def ju (x0 : List ae) (x1 : Int) : (List ae) :=
 jh x0 x1 (fun (zE102_111 : List ae) =>
  zE102_111) (Int.toNat ((x0.length : Int) - 0)) 0 ([] : List ae)
def qq (x0 : Int) : Bool :=
 ((decide (1 ≤ x0)) && (decide (x0 ≤ 64)))
def dz (x0 : Int) : (BitVec 64) :=
 (18446744073709551615#64 >>> (wr (64 - x0)).toNat)
def fc (x0 : ae) : ae :=
 ({ Value := (x0.Value &&& x0.Mask), Mask := x0.Mask } : ae)
def ig (x0 : ae) (x1 : ae) : ae × Bool :=
 if (!decide ((((x0.Value ^^^ x1.Value) &&& x0.Mask) &&& x1.Mask) = 0#64)) then
  (({ Value := 0#64, Mask := 0#64 } : ae), false)
 else
 (({ Value := ((x0.Value &&& x0.Mask) ||| (x1.Value &&& x1.Mask)), Mask := (x0.Mask ||| x1.Mask) } : ae), true)
def cj (x0 : BitVec 64) : Int := if x0 = 0#64 then 0 else ((Nat.log2 x0.toNat : Nat) : Int) + 1
def eg (y : ae) : Nat → BitVec 64 → ae → List ae
 | 0, _, _ => []
 | m + 1, left, rest => if left = 0#64 then [] else
   ({ Value := rest.Value ||| (~~~y.Value &&& (1#64 <<< (cj left - 1).toNat)), Mask := rest.Mask ||| (1#64 <<< (cj left - 1).toNat) } : ae) ::
     eg y m (left &&& ~~~(1#64 <<< (cj left - 1).toNat)) ({ Value := rest.Value ||| (y.Value &&& (1#64 <<< (cj left - 1).toNat)), Mask := rest.Mask ||| (1#64 <<< (cj left - 1).toNat) } : ae)
def co (x0 x1 : ae) (x2 : Int) : List ae :=
 if (!qq x2) = true then [] else
 LET (fc ({ Value := x0.Value, Mask := x0.Mask &&& dz x2 } : ae)) fun a =>
 LET (fc ({ Value := x1.Value, Mask := x1.Mask &&& dz x2 } : ae)) fun b =>
 if (!(ig a b).2) = true then [a] else eg b 64 (b.Mask &&& ~~~a.Mask) a
def iu (w : Int) : List ae → List ae → List ae × Int
 | [], out => (out, 0)
 | x :: b, out => LET (fi (out.flatMap fun c => co c x w)) fun q => if (!decide (q.2 = 0)) = true then ([], q.2) else iu w b q.1
def fx (x0 x1 : List ae) (x2 : Int) : List ae × Int :=
 if (decide (x2 < 1) || decide (64 < x2)) = true then ([], 10) else
 LET (fi (ju x0 x2)) fun q => if (!decide (q.2 = 0)) = true then ([], q.2) else iu x2 x1 q.1
def bw (x0 : List bh) (x1 : bh → Bool) (K0 : Unit → Int) : Nat → Int → Int
 | 0, x8_ => K0 ()
 | m + 1, x8_ =>
   if (x1 (ix x0 x8_)) then
    x8_
   else
   bw x0 x1 K0 m (x8_ + 1)
def gj (x0 : List bh) (x1 : bh → Bool) : Int :=
 bw x0 x1 (fun (_ : Unit) =>
  (-1)) (Int.toNat ((x0.length : Int) - 0)) 0
def jz (x0 : av) (K0 : (List (BitVec 32)) → (List (BitVec 32))) : Nat → Int → (List (BitVec 32)) → (List (BitVec 32))
 | 0, x9_, zE103 => K0 zE103
 | m + 1, x9_, zE103 =>
   jz x0 K0 m (x9_ + 1) (zE103 ++ ([(ix x0.Keys x9_).Value] : List (BitVec 32)))
def ph (x0 : av) : (List (BitVec 32)) :=
 jz x0 (fun (zE103_112 : List (BitVec 32)) =>
  zE103_112) (Int.toNat ((x0.Keys.length : Int) - 0)) 0 ([] : List (BitVec 32))
def kb (p : aa) (t : Int) (W : List Int) (l : List ak) (r : ak) : List ae := (l.filter fun x => dk p t x r).map fun x => ip x.Entry W
def jl (p : aa) (t : Int) (W : List Int) (n : Int) (l : List ak) : List ak → List Int → List Int × Int
 | [], out => (out.mergeSort fun x y => decide (x ≤ y), 0)
 | r :: rs, out => LET (fx [ip r.Entry W] (kb p t W l r) n) fun q => if (!decide (q.2 = 0)) = true then ([], q.2) else jl p t W n l rs (if decide ((q.1.length : Int) = 0) = true then out ++ [r.ID] else out)
def fj (p : aa) (t : Int) (l : List ak) : List Int × Int :=
 LET (oh p t l) fun e => if (!decide (e = 0)) = true then ([], e) else
 if decide (lm p t = 0) = true then ([], 0) else jl p t (ee p t) (lm p t) l l []
def zp (x2 : av) (y103 : (List Int)) (K0 : ae → ae) : Nat → Int → ae → ae
 | 0, x9_, zE106 => K0 zE106
 | m + 1, x9_, zE106 =>
   if ((decide (x9_ < (y103.length : Int))) && (decide (x9_ < (x2.Keys.length : Int)))) then
    zp x2 y103 K0 m (x9_ + 1) ({ Value := ((zE106.Value <<< (ix y103 x9_).toNat) ||| (BitVec.setWidth 64 ((ix x2.Keys x9_).Value))), Mask := ((zE106.Mask <<< (ix y103 x9_).toNat) ||| (BitVec.setWidth 64 ((ix x2.Keys x9_).Mask))) } : ae)
   else
   K0 zE106
def am3 (x0 : aa) (x1 : Int) (x2 : av) : ae :=
 LET (bp x0 x1) fun y103 =>
 zp x2 y103 (fun (zE106_122 : ae) =>
  zE106_122) (Int.toNat ((y103.length : Int) - 0)) 0 ({ Value := 0#64, Mask := 0#64 } : ae)
def gc (y101 : (List Int)) (K0 : Int → Int) : Nat → Int → Int → Int
 | 0, x6_, x7_ => K0 x6_
 | m + 1, x6_, x7_ =>
   gc y101 K0 m (wr (x6_ + (ix y101 x7_))) (x7_ + 1)
def uj (x0 : aa) (x1 : Int) : Int :=
 LET (bp x0 x1) fun y101 =>
 gc y101 (fun (x6_105 : Int) =>
  x6_105) (Int.toNat ((y101.length : Int) - 0)) 0 0
def ao5 (x0 : Int) : (BitVec 64) :=
 (((1#64 <<< (BitVec.ofInt 64 (wr (x0 - 1))).toNat) * 2#64) - 1#64)
def ga (x0 : ae) (x1 : ae) : Bool :=
 ((decide ((x0.Mask &&& x1.Mask) = x1.Mask)) && (decide ((x0.Value &&& x1.Mask) = (x1.Value &&& x1.Mask))))
def kt (x0 : List ae) (x1 : Int) (K0 : Unit → Bool) : Nat → Int → Bool
 | 0, x5_ => K0 ()
 | m + 1, x5_ =>
   if (((!decide (x5_ = x1)) && (ga (ix x0 x1) (ix x0 x5_))) && ((decide (x5_ < x1)) || (!(ga (ix x0 x5_) (ix x0 x1))))) then
    true
   else
   kt x0 x1 K0 m (x5_ + 1)
def my (x0 : List ae) (x1 : Int) : Bool :=
 kt x0 x1 (fun (_ : Unit) =>
  false) (Int.toNat ((x0.length : Int) - 0)) 0
def jn (x0 : List ae) (K0 : (List ae) → (List ae)) : Nat → Int → (List ae) → (List ae)
 | 0, x4_, zE102 => K0 zE102
 | m + 1, x4_, zE102 =>
   LET (my x0 x4_) fun y105 =>
   if (!y105) then
    jn x0 K0 m (x4_ + 1) (zE102 ++ ([({ Value := (((ix x0 x4_).Value) &&& ((ix x0 x4_).Mask)), Mask := (ix x0 x4_).Mask } : ae)] : List ae))
   else
   jn x0 K0 m (x4_ + 1) zE102
def sd (x0 : List ae) : (List ae) :=
 jn x0 (fun (zE102_112 : List ae) =>
  zE102_112) (Int.toNat ((x0.length : Int) - 0)) 0 ([] : List ae)
def uh (x0 : List ae) : (List ae) × Int :=
 LET (sd x0) fun y101 =>
 if (decide (1024 < (y101.length : Int))) then
  (([] : List ae), 12)
 else
 (y101, 0)
def ud (K0 : (BitVec 64) → (BitVec 64)) : Nat → (BitVec 64) → Int → (BitVec 64)
 | 0, x3_, x4_ => K0 x3_
 | m + 1, x3_, x4_ =>
   ud K0 m ((2#64 * x3_) + 1#64) (x4_ + 1)
def wg (x0 : Int) : (BitVec 64) :=
 ud (fun (x3_103 : BitVec 64) =>
  x3_103) (Int.toNat (x0 - 0)) 0#64 0
def iv (x0 : ae) (x1 : Int) : ae :=
 LET (wg x1) fun y103 =>
 ({ Value := (x0.Value &&& (x0.Mask &&& y103)), Mask := (x0.Mask &&& y103) } : ae)
def mw (x0 : ae) (x1 : ae) : ae × Bool :=
 if (!decide ((x0.Value &&& (x0.Mask &&& x1.Mask)) = (x1.Value &&& (x0.Mask &&& x1.Mask)))) then
  (({ Value := 0#64, Mask := 0#64 } : ae), false)
 else
 (({ Value := ((x0.Value &&& x0.Mask) ||| (x1.Value &&& x1.Mask)), Mask := (x0.Mask ||| x1.Mask) } : ae), true)
def ii (y105 : ae) (K0 : (List ae) → ae → (List ae)) : Nat → Int → (List ae) → ae → (List ae)
 | 0, x12_, zE127, zE108 => K0 zE127 zE108
 | m + 1, x12_, zE127, zE108 =>
   if (decide (0 ≤ x12_)) then
    if ((!decide ((y105.Mask &&& (1#64 <<< (BitVec.ofInt 64 x12_).toNat)) = 0#64)) && (decide ((zE108.Mask &&& (1#64 <<< (BitVec.ofInt 64 x12_).toNat)) = 0#64))) then
     ii y105 K0 m (wr (x12_ - 1)) (zE127 ++ ([({ Value := (zE108.Value ||| ((y105.Value &&& (1#64 <<< (BitVec.ofInt 64 x12_).toNat)) ^^^ (1#64 <<< (BitVec.ofInt 64 x12_).toNat))), Mask := (zE108.Mask ||| (1#64 <<< (BitVec.ofInt 64 x12_).toNat)) } : ae)] : List ae)) ({ Value := (zE108.Value ||| (y105.Value &&& (1#64 <<< (BitVec.ofInt 64 x12_).toNat))), Mask := (zE108.Mask ||| (1#64 <<< (BitVec.ofInt 64 x12_).toNat)) } : ae)
    else
    ii y105 K0 m (wr (x12_ - 1)) zE127 zE108
   else
   K0 zE127 zE108
def rn (x0 : ae) (x1 : ae) (x2 : Int) : (List ae) :=
 if ((decide (x2 < 1)) || (decide (64 < x2))) then
  ([] : List ae)
 else
 LET (iv x0 x2) fun y103 =>
 LET (iv x1 x2) fun y105 =>
 LET (ga y103 y105) fun y113 =>
 if y113 then
  ([] : List ae)
 else
 LET (mw y103 y105) fun y115 =>
 if (!y115.2) then
  ([y103] : List ae)
 else
 ii y105 (fun (zE127_137 : List ae) (zE108_137 : ae) =>
  zE127_137) (Int.toNat ((wr (x2 - 1)) + 1)) (wr (x2 - 1)) ([] : List ae) y103
def ve (x0 : List ae) (x2 : Int) (K0 : (List ae) → ((List ae) × Int)) : Nat → Int → (List ae) → ((List ae) × Int)
 | 0, x9_, zE104 => K0 zE104
 | m + 1, x9_, zE104 =>
   LET (ao5 x2) fun y109 =>
   ve x0 x2 K0 m (x9_ + 1) (zE104 ++ ([({ Value := (ix x0 x9_).Value, Mask := (((ix x0 x9_).Mask) &&& y109) } : ae)] : List ae))
def vo (x1 : List ae) (x2 : Int) (x8_ : List ae) (x11_ : Int) (K4 : (List ae) → ((List ae) × Int)) : Nat → Int → (List ae) → ((List ae) × Int)
 | 0, x13_, zE121 => K4 zE121
 | m + 1, x13_, zE121 =>
   LET (rn (ix x8_ x13_) (ix x1 x11_) x2) fun y126 =>
   vo x1 x2 x8_ x11_ K4 m (x13_ + 1) (zE121 ++ y126)
def vk (x1 : List ae) (x2 : Int) (K2 : (List ae) → Int → ((List ae) × Int)) : Nat → (List ae) → Int → Int → ((List ae) × Int)
 | 0, x8_, x10_, x11_ => K2 x8_ x10_
 | m + 1, x8_, x10_, x11_ =>
   if ((decide (x11_ < (x1.length : Int))) && (decide (x10_ = 0))) then
    vo x1 x2 x8_ x11_ (fun (zE121_129 : List ae) =>
     LET (uh zE121_129) fun y131 =>
     vk x1 x2 K2 m y131.1 y131.2 (x11_ + 1)) (Int.toNat ((x8_.length : Int) - 0)) 0 ([] : List ae)
   else
   K2 x8_ x10_
def ak2 (x0 : List ae) (x1 : List ae) (x2 : Int) : (List ae) × Int :=
 if ((decide (x2 < 1)) || (decide (64 < x2))) then
  (([] : List ae), 10)
 else
 ve x0 x2 (fun (zE104_112 : List ae) =>
  LET (uh zE104_112) fun y114 =>
  vk x1 x2 (fun (x8_133 : List ae) (x10_133 : Int) =>
   if (!decide (x10_133 = 0)) then
    (([] : List ae), x10_133)
   else
   (x8_133, 0)) (Int.toNat ((x1.length : Int) - 0)) y114.1 y114.2 0) (Int.toNat ((x0.length : Int) - 0)) 0 ([] : List ae)
def xv (x0 : List Int) (x1 : Int) (K0 : Int → (List Int)) : Nat → Int → (List Int)
 | 0, x5_ => K0 x5_
 | m + 1, x5_ =>
   if ((decide (x5_ < (x0.length : Int))) && (decide ((ix x0 x5_) < x1))) then
    xv x0 x1 K0 m (x5_ + 1)
   else
   K0 x5_
def ax3 (x0 : List Int) (x1 : Int) : (List Int) :=
 xv x0 x1 (fun (x5_105 : Int) =>
  (((sub x0 0 x5_105) ++ ([x1] : List Int)) ++ (sub x0 x5_105 (x0.length : Int)))) (Int.toNat ((x0.length : Int) - 0)) 0
def ri (x0 : aa) (x1 : Int) (x2 : List ak) (x10_ : Int) (K2 : (List ae) → ((List Int) × Int)) : Nat → Int → (List ae) → ((List Int) × Int)
 | 0, x12_, zE110 => K2 zE110
 | m + 1, x12_, zE110 =>
   LET (rj x0 x1 (ix x2 x12_) (ix x2 x10_)) fun y115 =>
   if y115 then
    LET (am3 x0 x1 ((ix x2 x12_).Entry)) fun y119 =>
    ri x0 x1 x2 x10_ K2 m (x12_ + 1) (zE110 ++ ([y119] : List ae))
   else
   ri x0 x1 x2 x10_ K2 m (x12_ + 1) zE110
def sg (x0 : aa) (x1 : Int) (x2 : List ak) (K0 : (List Int) → ((List Int) × Int)) : Nat → (List Int) → Int → ((List Int) × Int)
 | 0, x9_, x10_ => K0 x9_
 | m + 1, x9_, x10_ =>
   ri x0 x1 x2 x10_ (fun (zE110_123 : List ae) =>
    LET (am3 x0 x1 ((ix x2 x10_).Entry)) fun y127 =>
    LET (uj x0 x1) fun y130 =>
    LET (ak2 ([y127] : List ae) zE110_123 y130) fun y131 =>
    if (!decide (y131.2 = 0)) then
     (([] : List Int), y131.2)
    else
    if (decide ((y131.1.length : Int) = 0)) then
     LET (ax3 x9_ ((ix x2 x10_).ID)) fun y136 =>
     sg x0 x1 x2 K0 m y136 (x10_ + 1)
    else
    sg x0 x1 x2 K0 m x9_ (x10_ + 1)) (Int.toNat ((x2.length : Int) - 0)) 0 ([] : List ae)
def am9 (x0 : aa) (x1 : Int) (x2 : List ak) : (List Int) × Int :=
 LET (oh x0 x1 x2) fun y101 =>
 if (!decide (y101 = 0)) then
  (([] : List Int), y101)
 else
 if (decide ((((ix x0.Tables x1).Keys).length : Int) = 0)) then
  (([] : List Int), 0)
 else
 sg x0 x1 x2 (fun (x9_138 : List Int) =>
  (x9_138, 0)) (Int.toNat ((x2.length : Int) - 0)) ([] : List Int) 0
def ux (x0 : List Int) (x1 : List Int) (K0 : Unit → Bool) : Nat → Int → Bool
 | 0, x5_ => K0 ()
 | m + 1, x5_ =>
   if (!decide ((ix x0 x5_) = (ix x1 x5_))) then
    false
   else
   ux x0 x1 K0 m (x5_ + 1)
def ah3 (x0 : List Int) (x1 : List Int) : Bool :=
 if (!decide ((x0.length : Int) = (x1.length : Int))) then
  false
 else
 ux x0 x1 (fun (_ : Unit) =>
  true) (Int.toNat ((x0.length : Int) - 0)) 0
def ba8 (x0 : bm) : Bool :=
 LET (im x0) fun y101 =>
 if y101 then
  LET (lb) fun y103 =>
  y103
 else
 LET (fj x0.Program x0.Table x0.Rows) fun y106 =>
 LET (am9 x0.Program x0.Table x0.Rows) fun y110 =>
 LET (ah3 y106.1 y110.1) fun y112 =>
 ((y112 && (decide (y106.2 = y110.2))) && (lb))
def nl (K0 : (BitVec 64) → Bool) : Nat → (BitVec 64) → Int → Bool
 | 0, x5_, x6_ => K0 x5_
 | m + 1, x5_, x6_ =>
   nl K0 m (2#64 * x5_) (x6_ + 1)
def nq (x0 : BitVec 32) (x1 : Int) : Bool :=
 nl (fun (x5_103 : BitVec 64) =>
  (decide ((BitVec.setWidth 64 x0) < x5_103))) (Int.toNat (x1 - 0)) 1#64 0
def jv (y102 : (List Int)) (x5_ : Int) (K2 : (BitVec 32) → (List (BitVec 32))) : Nat → (BitVec 32) → (List (BitVec 32))
 | 0, x6_ => K2 x6_
 | m + 1, x6_ =>
   LET (nq x6_ (ix y102 x5_)) fun y114 =>
   if (!y114) then
    jv y102 x5_ K2 m (x6_ / 2#32)
   else
   K2 x6_
def jd (x0 : bm) (y102 : (List Int)) (K0 : (List (BitVec 32)) → (List (BitVec 32))) : Nat → Int → (List (BitVec 32)) → (List (BitVec 32))
 | 0, x5_, zE105 => K0 zE105
 | m + 1, x5_, zE105 =>
   LET (fun (x6_111 : BitVec 32) =>
    jv y102 x5_ (fun (x6_116 : BitVec 32) =>
     jd x0 y102 K0 m (x5_ + 1) (zE105 ++ ([x6_116] : List (BitVec 32)))) (Int.toNat ((x6_111.toNat : Int))) x6_111) fun k111 =>
   if (decide (x5_ < (x0.Key.length : Int))) then
    k111 (ix x0.Key x5_)
   else
   k111 0#32
def lv (x0 : bm) : (List (BitVec 32)) :=
 LET (bp x0.Program x0.Table) fun y102 =>
 jd x0 y102 (fun (zE105_121 : List (BitVec 32)) =>
  zE105_121) (Int.toNat ((y102.length : Int) - 0)) 0 ([] : List (BitVec 32))
def kw (x0 : List Int) (x1 : Int) (K0 : Unit → Bool) : Nat → Int → Bool
 | 0, x5_ => K0 ()
 | m + 1, x5_ =>
   if (decide ((ix x0 x5_) = x1)) then
    true
   else
   kw x0 x1 K0 m (x5_ + 1)
def lf (x0 : List Int) (x1 : Int) : Bool :=
 kw x0 x1 (fun (_ : Unit) =>
  false) (Int.toNat ((x0.length : Int) - 0)) 0
def gb (x0 : bm) (y106 : (List Int) × Int) (K0 : (List ak) → Bool) : Nat → Int → (List ak) → Bool
 | 0, x7_, zE113 => K0 zE113
 | m + 1, x7_, zE113 =>
   LET (lf y106.1 ((ix x0.Rows x7_).ID)) fun y120 =>
   if (!y120) then
    gb x0 y106 K0 m (x7_ + 1) (zE113 ++ ([(ix x0.Rows x7_)] : List ak))
   else
   gb x0 y106 K0 m (x7_ + 1) zE113
def ng (x0 : bm) : Bool :=
 LET (im x0) fun y101 =>
 if y101 then
  LET (lb) fun y103 =>
  y103
 else
 LET (fj x0.Program x0.Table x0.Rows) fun y106 =>
 if (!decide (y106.2 = 0)) then
  LET (lb) fun y109 =>
  y109
 else
 LET (lv x0) fun y110 =>
 gb x0 y106 (fun (zE113_126 : List ak) =>
  LET (jm x0.Program x0.Table x0.Rows y110) fun y129 =>
  LET (jm x0.Program x0.Table zE113_126 y110) fun y137 =>
  LET (rh y129.1 y137.1) fun y142 =>
  (((y142 && (decide (y129.2 = y137.2))) && ((!y129.2) || (!(lf y106.1 y129.1.ID)))) && (lb))) (Int.toNat ((x0.Rows.length : Int) - 0)) 0 ([] : List ak)
end Go.Proofs.YthdnpgpnodgicaaGreat
