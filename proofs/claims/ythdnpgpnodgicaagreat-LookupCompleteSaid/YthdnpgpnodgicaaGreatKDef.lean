import Derived.Test.YthdnpgpnodgicaaGreatKTy
import Derived.Test.YthdnpgpnodgicaaGreatPbC
import Derived.Test.YthdnpgpnodgicaaGreatKSh
set_option linter.unusedVariables false
set_option linter.unusedSimpArgs false
set_option maxRecDepth 100000
namespace Go.Proofs.YthdnpgpnodgicaaGreat
open Go Go.Pb Go.RowKit
def pg (x0 : List aj) (x1 : Int) (rec_ : (List aj) → Int → Int) (K0 : Int → Int) : Nat → Int → Int → Int
 | 0, x5_, x6_ => K0 x5_
 | m + 1, x5_, x6_ =>
   if ((decide (x6_ < (x0.length : Int))) && (decide (x5_ < 100))) then
    if ((decide (x1 = 0)) || (decide (40 < (((ix x0 x6_).Cond).length : Int)))) then
     100
    else
    LET (rec_ ((ix x0 x6_).Then) (wr (x1 - 1))) fun y111 =>
    LET (rec_ ((ix x0 x6_).Else) (wr (x1 - 1))) fun y114 =>
    pg x0 x1 rec_ K0 m (wr ((wr (x5_ + y111)) + y114)) (x6_ + 1)
   else
   K0 x5_
def sj (rec_ : (List aj) → Int → Int) (x0 : List aj) (x1 : Int) : Int :=
 pg x0 x1 rec_ (fun (x5_115 : Int) =>
  x5_115) (Int.toNat ((x0.length : Int) - 0)) (x0.length : Int) 0
def ou : Nat → (List aj) → Int → Int
 | 0, _, _ => default
 | n_ + 1, x0, x1 => sj (ou n_) x0 x1
def pv (x0 : List aj) (x1 : Int) : Int := ou (x1.toNat + 1) x0 x1
def pq (x0 : ct) (K0 : Unit → Bool) : Nat → Int → Bool
 | 0, x3_ => K0 ()
 | m + 1, x3_ =>
   if (decide (30 < (((ix x0.Fields x3_).Name).length : Int))) then
    false
   else
   pq x0 K0 m (x3_ + 1)
def ya (x0 : ct) : Bool :=
 if ((decide (30 < (x0.Name.length : Int))) || (decide (20 < (x0.Fields.length : Int)))) then
  false
 else
 pq x0 (fun (_ : Unit) =>
  true) (Int.toNat ((x0.Fields.length : Int) - 0)) 0
def kx (x0 : cz) (K0 : Unit → Bool) : Nat → Int → Bool
 | 0, x3_ => K0 ()
 | m + 1, x3_ =>
   if ((decide (40 < (((ix x0.Body x3_).Index).length : Int))) || (decide (40 < (((ix x0.Body x3_).Value).length : Int)))) then
    true
   else
   kx x0 K0 m (x3_ + 1)
def qy (x0 : cz) : Bool :=
 if (((decide (8 < (x0.Params.length : Int))) || (decide (16 < (x0.Body.length : Int)))) || (decide (60 < (x0.Name.length : Int)))) then
  true
 else
 kx x0 (fun (_ : Unit) =>
  false) (Int.toNat ((x0.Body.length : Int) - 0)) 0
def sh (x0 : cv) : Bool :=
 (((decide (8 < (x0.Extract.length : Int))) || (decide (12 < (x0.Cases.length : Int)))) || (decide (60 < (x0.Name.length : Int))))
def mn (x0 : aa) (K0 : Unit → Bool) : Nat → Int → Bool
 | 0, x3_ => K0 ()
 | m + 1, x3_ =>
   LET (ya (ix x0.Headers x3_)) fun y125 =>
   if (!y125) then
    true
   else
   mn x0 K0 m (x3_ + 1)
def mz (x0 : aa) (K2 : Unit → Bool) : Nat → Int → Bool
 | 0, x4_ => K2 ()
 | m + 1, x4_ =>
   LET (qy (ix x0.Actions x4_)) fun y134 =>
   if y134 then
    true
   else
   mz x0 K2 m (x4_ + 1)
def my (x0 : aa) (K4 : Unit → Bool) : Nat → Int → Bool
 | 0, x5_ => K4 ()
 | m + 1, x5_ =>
   if ((((decide (10 < (((ix x0.Tables x5_).Keys).length : Int))) || (decide (24 < (((ix x0.Tables x5_).Actions).length : Int)))) || (decide (8 < ((((ix x0.Tables x5_).Default).Args).length : Int)))) || (decide (60 < (((ix x0.Tables x5_).Name).length : Int)))) then
    true
   else
   my x0 K4 m (x5_ + 1)
def mw (x0 : aa) (K6 : Unit → Bool) : Nat → Int → Bool
 | 0, x6_ => K6 ()
 | m + 1, x6_ =>
   LET (sh (ix x0.States x6_)) fun y164 =>
   if y164 then
    true
   else
   mw x0 K6 m (x6_ + 1)
def nj (x0 : aa) : Bool :=
 if (((((((((decide (60 < (x0.Name.length : Int))) || (decide (16 < (x0.Headers.length : Int)))) || (decide (20 < (x0.Metadata.length : Int)))) || (decide (8 < (x0.Registers.length : Int)))) || (decide (24 < (x0.Actions.length : Int)))) || (decide (16 < (x0.Tables.length : Int)))) || (decide (16 < (x0.States.length : Int)))) || (decide (16 < (x0.Deparser.length : Int)))) || (decide (60 < (pv x0.Control 10)))) then
  true
 else
 mn x0 (fun (_ : Unit) =>
  mz x0 (fun (_ : Unit) =>
   my x0 (fun (_ : Unit) =>
    mw x0 (fun (_ : Unit) =>
     false) (Int.toNat ((x0.States.length : Int) - 0)) 0) (Int.toNat ((x0.Tables.length : Int) - 0)) 0) (Int.toNat ((x0.Actions.length : Int) - 0)) 0) (Int.toNat ((x0.Headers.length : Int) - 0)) 0
def ka (x0 : bm) (K0 : Unit → Bool) : Nat → Int → Bool
 | 0, x3_ => K0 ()
 | m + 1, x3_ =>
   if ((decide (20 < ((((ix x0.Rows x3_).Entry).Keys).length : Int))) || (decide (20 < (((((ix x0.Rows x3_).Entry).Call).Args).length : Int)))) then
    true
   else
   ka x0 K0 m (x3_ + 1)
def gc (x0 : bm) : Bool :=
 LET (nj x0.Program) fun y102 =>
 if ((y102 || (decide (30 < (x0.Rows.length : Int)))) || (decide (20 < (x0.Key.length : Int)))) then
  true
 else
 ka x0 (fun (_ : Unit) =>
  false) (Int.toNat ((x0.Rows.length : Int) - 0)) 0
def kj : Bool := true
def jb (x0 : aw) (x1 : List (BitVec 32)) (K0 : Unit → Bool) : Nat → Int → Bool
 | 0, x16_ => K0 ()
 | m + 1, x16_ =>
   if (!decide ((((ix x1 x16_) ^^^ ((ix x0.Keys x16_).Value)) &&& ((ix x0.Keys x16_).Mask)) = 0#32)) then
    false
   else
   jb x0 x1 K0 m (x16_ + 1)
def cq (x0 : aw) (x1 : List (BitVec 32)) : Bool :=
 if (!decide ((x1.length : Int) = (x0.Keys.length : Int))) then
  false
 else
 jb x0 x1 (fun (_ : Unit) =>
  true) (Int.toNat ((x0.Keys.length : Int) - 0)) 0
def fm (x0 : List am) (x1 : am → Bool) (K0 : am → (am × Bool)) : Nat → Int → am → (am × Bool)
 | 0, x11_, zE102 => K0 zE102
 | m + 1, x11_, zE102 =>
   if (x1 (ix x0 x11_)) then
    ((ix x0 x11_), true)
   else
   fm x0 x1 K0 m (x11_ + 1) zE102
def da (x0 : List am) (x1 : am → Bool) : am × Bool :=
 fm x0 x1 (fun (zE102_112 : am) =>
  (({ ID := 0, Entry := ({ Keys := ([] : List ba), Priority := 0, Call := ({ Action := 0, Args := ([] : List (BitVec 32)) } : bb) } : aw) } : am), false)) (Int.toNat ((x0.length : Int) - 0)) 0 ({ ID := 0, Entry := ({ Keys := ([] : List ba), Priority := 0, Call := ({ Action := 0, Args := ([] : List (BitVec 32)) } : bb) } : aw) } : am)
def jg (x0 : BitVec 32) (K0 : Int → Int) : Nat → Int → Int → Int
 | 0, x3_, x5_ => K0 x3_
 | m + 1, x3_, x5_ =>
   jg x0 K0 m (wr (x3_ + (((x0 >>> x5_.toNat) &&& 1#32).toNat : Int))) (x5_ + 1)
def nm (x0 : BitVec 32) : Int :=
 jg x0 (fun (x3_103 : Int) =>
  x3_103) (Int.toNat (32 - 0)) 0 0
def li (x0 : aa) (x1 : Int) (x2 : aw) (K0 : Unit → Int) : Nat → Int → Int
 | 0, x25_ => K0 ()
 | m + 1, x25_ =>
   if (decide (((ix ((ix x0.Tables x1).Keys) x25_).Kind) = 2)) then
    if (decide (x25_ < (x2.Keys.length : Int))) then
     LET (nm ((ix x2.Keys x25_).Mask)) fun y118 =>
     y118
    else
    0
   else
   li x0 x1 x2 K0 m (x25_ + 1)
def jp (x0 : aa) (x1 : Int) (x2 : aw) : Int :=
 if ((decide (x1 < 0)) || (decide ((x0.Tables.length : Int) ≤ x1))) then
  0
 else
 li x0 x1 x2 (fun (_ : Unit) =>
  0) (Int.toNat ((((ix x0.Tables x1).Keys).length : Int) - 0)) 0
def de (x0 : aa) (x1 : Int) (x2 : am) (x3 : am) : Bool :=
 if (!decide (x2.Entry.Priority = x3.Entry.Priority)) then
  (decide (x3.Entry.Priority < x2.Entry.Priority))
 else
 LET (jp x0 x1 x2.Entry) fun y107 =>
 LET (jp x0 x1 x3.Entry) fun y109 =>
 if (!decide (y107 = y109)) then
  (decide (y109 < y107))
 else
 (decide (x2.ID < x3.ID))
def ga (x0 : aa) (x1 : Int) (x2 : List am) (x3 : List (BitVec 32)) : am × Bool :=
 if decide (x1 < 0) || decide ((x0.Tables.length : Int) ≤ x1) then (({ ID := 0, Entry := ({ Keys := ([] : List ba), Priority := 0, Call := ({ Action := 0, Args := ([] : List (BitVec 32)) } : bb) } : aw) } : am), false)
 else da x2 (fun r => cq r.Entry x3 && !(da x2 (fun x => cq x.Entry x3 && de x0 x1 x r)).2)
def qg (x0 : aw) (x1 : List (BitVec 32)) (K0 : Unit → Bool) : Nat → Int → Bool
 | 0, x5_ => K0 ()
 | m + 1, x5_ =>
   if (!decide ((((ix x1 x5_) ^^^ ((ix x0.Keys x5_).Value)) &&& ((ix x0.Keys x5_).Mask)) = 0#32)) then
    false
   else
   qg x0 x1 K0 m (x5_ + 1)
def vn (x0 : aw) (x1 : List (BitVec 32)) : Bool :=
 if (!decide ((x0.Keys.length : Int) = (x1.length : Int))) then
  false
 else
 qg x0 x1 (fun (_ : Unit) =>
  true) (Int.toNat ((x1.length : Int) - 0)) 0
def og (K0 : Int → Int) : Nat → (BitVec 32) → Int → Int → Int
 | 0, x0_, x3_, x4_ => K0 x3_
 | m + 1, x0_, x3_, x4_ =>
   og K0 m (x0_ / 2#32) (wr (x3_ + ((x0_ % 2#32).toNat : Int))) (x4_ + 1)
def su (x0 : BitVec 32) : Int :=
 og (fun (x3_103 : Int) =>
  x3_103) (Int.toNat (32 - 0)) x0 0 0
def ng (x0 : aa) (x1 : Int) (x2 : aw) (K0 : Unit → Int) : Nat → Int → Int
 | 0, x7_ => K0 ()
 | m + 1, x7_ =>
   if (decide (((ix ((ix x0.Tables x1).Keys) x7_).Kind) = 2)) then
    if (decide ((x2.Keys.length : Int) ≤ x7_)) then
     0
    else
    LET (su ((ix x2.Keys x7_).Mask)) fun y121 =>
    y121
   else
   ng x0 x1 x2 K0 m (x7_ + 1)
def qb (x0 : aa) (x1 : Int) (x2 : aw) : Int :=
 if ((decide (x1 < 0)) || (decide ((x0.Tables.length : Int) ≤ x1))) then
  0
 else
 ng x0 x1 x2 (fun (_ : Unit) =>
  0) (Int.toNat ((((ix x0.Tables x1).Keys).length : Int) - 0)) 0
def rp (x0 : aa) (x1 : Int) (x2 : am) (x3 : am) : Bool :=
 LET (qb x0 x1 x2.Entry) fun y102 =>
 LET (qb x0 x1 x3.Entry) fun y104 =>
 if (!decide (x2.Entry.Priority = x3.Entry.Priority)) then
  (decide (x3.Entry.Priority < x2.Entry.Priority))
 else
 if (!decide (y102 = y104)) then
  (decide (y104 < y102))
 else
 (decide (x2.ID < x3.ID))
def ow (x0 : aa) (x1 : Int) (x2 : List am) (x3 : List (BitVec 32)) (K0 : Bool → am → (am × Bool)) : Nat → Bool → Int → am → (am × Bool)
 | 0, x11_, x12_, zE104 => K0 x11_ zE104
 | m + 1, x11_, x12_, zE104 =>
   if (((decide (x12_ < (x2.length : Int))) && (decide (0 ≤ x1))) && (decide (x1 < (x0.Tables.length : Int)))) then
    LET (vn ((ix x2 x12_).Entry) x3) fun y117 =>
    if (y117 && ((!x11_) || (rp x0 x1 (ix x2 x12_) zE104))) then
     ow x0 x1 x2 x3 K0 m true (x12_ + 1) (ix x2 x12_)
    else
    ow x0 x1 x2 x3 K0 m x11_ (x12_ + 1) zE104
   else
   K0 x11_ zE104
def od (x0 : aa) (x1 : Int) (x2 : List am) (x3 : List (BitVec 32)) : am × Bool :=
 ow x0 x1 x2 x3 (fun (x11_125 : Bool) (zE104_125 : am) =>
  (zE104_125, x11_125)) (Int.toNat ((x2.length : Int) - 0)) false 0 ({ ID := 0, Entry := ({ Keys := ([] : List ba), Priority := 0, Call := ({ Action := 0, Args := ([] : List (BitVec 32)) } : bb) } : aw) } : am)
def px (x0 : aw) (x1 : aw) (K0 : Unit → Bool) : Nat → Int → Bool
 | 0, x5_ => K0 ()
 | m + 1, x5_ =>
   if (!decide ((ix x0.Keys x5_) = (ix x1.Keys x5_))) then
    false
   else
   px x0 x1 K0 m (x5_ + 1)
def qh (x0 : aw) (x1 : aw) : Bool :=
 if ((!decide ((x0.Keys.length : Int) = (x1.Keys.length : Int))) || (!decide (x0.Priority = x1.Priority))) then
  false
 else
 px x0 x1 (fun (_ : Unit) =>
  true) (Int.toNat ((x0.Keys.length : Int) - 0)) 0
def sx (x0 : bb) (x1 : bb) (K0 : Unit → Bool) : Nat → Int → Bool
 | 0, x5_ => K0 ()
 | m + 1, x5_ =>
   if (!decide ((ix x0.Args x5_) = (ix x1.Args x5_))) then
    false
   else
   sx x0 x1 K0 m (x5_ + 1)
def ae6 (x0 : bb) (x1 : bb) : Bool :=
 if ((!decide (x0.Action = x1.Action)) || (!decide ((x0.Args.length : Int) = (x1.Args.length : Int)))) then
  false
 else
 sx x0 x1 (fun (_ : Unit) =>
  true) (Int.toNat ((x0.Args.length : Int) - 0)) 0
def az0 (x0 : aw) (x1 : aw) : Bool :=
 LET (qh x0 x1) fun y101 =>
 (y101 && (ae6 x0.Call x1.Call))
def af4 (x0 : am) (x1 : am) : Bool :=
 ((decide (x0.ID = x1.ID)) && (az0 x0.Entry x1.Entry))
def br9 (x0 : bm) : Bool :=
 LET (gc x0) fun y101 =>
 if y101 then
  LET (kj) fun y103 =>
  y103
 else
 LET (ga x0.Program x0.Table x0.Rows x0.Key) fun y107 =>
 LET (od x0.Program x0.Table x0.Rows x0.Key) fun y115 =>
 LET (af4 y107.1 y115.1) fun y120 =>
 ((y120 && (decide (y107.2 = y115.2))) && (kj))
def mu (x0 : UInt8) : Bool :=
 (((decide ((97 : UInt8) ≤ x0)) && (decide (x0 ≤ (122 : UInt8)))) || ((decide ((65 : UInt8) ≤ x0)) && (decide (x0 ≤ (90 : UInt8)))))
def pw (x0 : UInt8) : Bool :=
 ((decide ((48 : UInt8) ≤ x0)) && (decide (x0 ≤ (57 : UInt8))))
def im (x0 : List UInt8) (K0 : Unit → Bool) : Nat → Int → Bool
 | 0, x3_ => K0 ()
 | m + 1, x3_ =>
   LET (mu (ix x0 x3_)) fun y107 =>
   if (((!y107) && (!(pw (ix x0 x3_)))) && (!decide ((ix x0 x3_) = (95 : UInt8)))) then
    false
   else
   im x0 K0 m (x3_ + 1)
def mf (x0 : List UInt8) : Bool :=
 if (((decide (x0 = ([] : List UInt8))) || (decide (16 < (x0.length : Int)))) || (!(mu (ix x0 0)))) then
  false
 else
 im x0 (fun (_ : Unit) =>
  true) (Int.toNat ((x0.length : Int) - 0)) 0
def iv (x0 : aa) (x1 : cm) : Int :=
 LET (fun (x5_108 : List bz) =>
  if (((((decide (x1.Header < (-1))) || (decide (x1.Field < 0))) || (decide ((x5_108.length : Int) ≤ x1.Field))) || (decide (((ix x5_108 x1.Field).Width) < 1))) || (decide (32 < ((ix x5_108 x1.Field).Width)))) then
   0
  else
  (ix x5_108 x1.Field).Width) fun k108 =>
 if (decide (0 ≤ x1.Header)) then
  if (decide ((x0.Headers.length : Int) ≤ x1.Header)) then
   0
  else
  k108 ((ix x0.Headers x1.Header).Fields)
 else
 k108 x0.Metadata
def jz (x0 : aa) (x1 : ax) (K0 : Int → Int → (Int × Int)) : Nat → Int → Int → Int → (Int × Int)
 | 0, x6_, x7_, x8_ => K0 x6_ x7_
 | m + 1, x6_, x7_, x8_ =>
   LET (iv x0 ((ix x1.Keys x8_).Field)) fun y108 =>
   if (decide (y108 = 0)) then
    (x8_, 8)
   else
   if (((!decide (((ix x1.Keys x8_).Kind) = 1)) && (!decide (((ix x1.Keys x8_).Kind) = 2))) && (!decide (((ix x1.Keys x8_).Kind) = 3))) then
    (x8_, 11)
   else
   if (decide (((ix x1.Keys x8_).Kind) = 2)) then
    jz x0 x1 K0 m (wr (x6_ + y108)) (wr (x7_ + 1)) (x8_ + 1)
   else
   jz x0 x1 K0 m (wr (x6_ + y108)) x7_ (x8_ + 1)
def qp (x0 : aa) (x1 : ax) : Int × Int :=
 jz x0 x1 (fun (x6_116 : Int) (x7_116 : Int) =>
  if (decide (1 < x7_116)) then
   ((-2), 7)
  else
  if (decide (64 < x6_116)) then
   ((-2), 10)
  else
  (0, 0)) (Int.toNat ((x1.Keys.length : Int) - 0)) 0 0 0
def iw (x0 : List Int) (x1 : Int) (K0 : Unit → Int) : Nat → Int → Int
 | 0, x5_ => K0 ()
 | m + 1, x5_ =>
   if (decide ((ix x0 x5_) = x1)) then
    x5_
   else
   iw x0 x1 K0 m (x5_ + 1)
def ik (x0 : List Int) (x1 : Int) : Int :=
 iw x0 x1 (fun (_ : Unit) =>
  (-1)) (Int.toNat ((x0.length : Int) - 0)) 0
def ie (x0 : Int) : Bool :=
 ((decide (1 ≤ x0)) && (decide (x0 ≤ 32)))
def pj (K0 : (BitVec 64) → (BitVec 64)) : Nat → (BitVec 64) → Int → (BitVec 64)
 | 0, x3_, x4_ => K0 x3_
 | m + 1, x3_, x4_ =>
   pj K0 m (2#64 * x3_) (x4_ + 1)
def ll (x0 : Int) : (BitVec 64) :=
 pj (fun (x3_103 : BitVec 64) =>
  x3_103) (Int.toNat (x0 - 0)) 1#64 0
def md (x0 : BitVec 32) (x1 : Int) : Bool :=
 LET (ie x1) fun y101 =>
 (y101 && (decide ((BitVec.setWidth 64 x0) < (ll x1))))
def jr (x0 : aa) (x1 : bb) (K0 : Unit → Int) : Nat → Int → Int
 | 0, x6_ => K0 ()
 | m + 1, x6_ =>
   LET (md (ix x1.Args x6_) ((ix ((ix x0.Actions x1.Action).Params) x6_).Width)) fun y113 =>
   if (!y113) then
    9
   else
   jr x0 x1 K0 m (x6_ + 1)
def mj (x0 : aa) (x1 : bb) : Int :=
 if ((decide (x1.Action < 0)) || (decide ((x0.Actions.length : Int) ≤ x1.Action))) then
  8
 else
 if (!decide ((x1.Args.length : Int) = (((ix x0.Actions x1.Action).Params).length : Int))) then
  2
 else
 jr x0 x1 (fun (_ : Unit) =>
  0) (Int.toNat ((((ix x0.Actions x1.Action).Params).length : Int) - 0)) 0
def jx (x0 : aa) (x1 : ax) (K0 : Unit → Int) : Nat → Int → Int
 | 0, x5_ => K0 ()
 | m + 1, x5_ =>
   if ((decide ((ix x1.Actions x5_) < 0)) || (decide ((x0.Actions.length : Int) ≤ (ix x1.Actions x5_)))) then
    8
   else
   LET (ik x1.Actions (ix x1.Actions x5_)) fun y112 =>
   if (decide (y112 < x5_)) then
    7
   else
   jx x0 x1 K0 m (x5_ + 1)
def ql (x0 : aa) (x1 : ax) : Int :=
 jx x0 x1 (fun (_ : Unit) =>
  LET (ik x1.Actions x1.Default.Action) fun y117 =>
  if (decide (y117 < 0)) then
   8
  else
  LET (mj x0 x1.Default) fun y120 =>
  y120) (Int.toNat ((x1.Actions.length : Int) - 0)) 0
def gz (x0 : aa) (x1 : Int) : Int × Int :=
 if ((decide (x1 < 0)) || (decide ((x0.Tables.length : Int) ≤ x1))) then
  ((-1), 8)
 else
 LET (mf ((ix x0.Tables x1).Name)) fun y109 =>
 if (!y109) then
  ((-1), 6)
 else
 if ((decide (6 < (((ix x0.Tables x1).Keys).length : Int))) || (decide (16 < (((ix x0.Tables x1).Actions).length : Int)))) then
  ((-1), 12)
 else
 if ((decide (((ix x0.Tables x1).Size) < 1)) || (decide (256 < ((ix x0.Tables x1).Size)))) then
  ((-1), 9)
 else
 LET (qp x0 (ix x0.Tables x1)) fun y117 =>
 if (!decide (y117.2 = 0)) then
  (y117.1, y117.2)
 else
 LET (ql x0 (ix x0.Tables x1)) fun y119 =>
 if (!decide (y119 = 0)) then
  ((-3), y119)
 else
 (0, 0)
def gb (x0 : aa) (x1 : Int) : Bool :=
 LET (gz x0 x1) fun y101 =>
 (decide (y101.2 = 0))
def ke (x0 : aa) (x1 : Int) (K0 : (List Int) → (List Int)) : Nat → Int → (List Int) → (List Int)
 | 0, x6_, zE104 => K0 zE104
 | m + 1, x6_, zE104 =>
   LET (iv x0 ((ix ((ix x0.Tables x1).Keys) x6_).Field)) fun y118 =>
   ke x0 x1 K0 m (x6_ + 1) (zE104 ++ ([y118] : List Int))
def br (x0 : aa) (x1 : Int) : (List Int) :=
 LET (gb x0 x1) fun y101 =>
 if (!y101) then
  ([] : List Int)
 else
 ke x0 x1 (fun (zE104_121 : List Int) =>
  zE104_121) (Int.toNat ((((ix x0.Tables x1).Keys).length : Int) - 0)) 0 ([] : List Int)
def sg (x0 : Int) (x1 : Int) : (BitVec 32) :=
 LET (ie x1) fun y101 =>
 if (!y101) then
  0#32
 else
 LET (ll x1) fun y103 =>
 LET (ll (wr (x1 - (min (max x0 0) x1)))) fun y104 =>
 (BitVec.setWidth 32 (y103 - y104))
def mb (x0 : BitVec 32) (x1 : Int) (K0 : Unit → (Int × Bool)) : Nat → Int → (Int × Bool)
 | 0, x6_ => K0 ()
 | m + 1, x6_ =>
   if ((decide (x6_ ≤ x1)) && (ie x1)) then
    LET (sg x6_ x1) fun y107 =>
    if (decide (y107 = x0)) then
     (x6_, true)
    else
    mb x0 x1 K0 m (x6_ + 1)
   else
   K0 ()
def oo (x0 : BitVec 32) (x1 : Int) : Int × Bool :=
 mb x0 x1 (fun (_ : Unit) =>
  (0, false)) (Int.toNat ((x1 + 1) - 0)) 0
def pt (x0 : Int) : (BitVec 32) :=
 LET (ie x0) fun y101 =>
 if (!y101) then
  0#32
 else
 LET (ll x0) fun y103 =>
 (BitVec.setWidth 32 (y103 - 1#64))
def lw (x0 : ba) (x1 : Int) (x2 : Int) : Int :=
 LET (oo x0.Mask x1) fun y101 =>
 LET (md x0.Value x1) fun y102 =>
 if ((!y102) || (!(md x0.Mask x1))) then
  9
 else
 if (!decide ((x0.Value &&& x0.Mask) = x0.Value)) then
  5
 else
 if (((decide (x2 = 1)) && (!decide (x0.Mask = (pt x1)))) || ((decide (x2 = 2)) && (!y101.2))) then
  11
 else
 0
def ot (x0 : aa) (x1 : Int) (K0 : Int → Int) : Nat → Int → Int → Int
 | 0, x5_, x6_ => K0 x5_
 | m + 1, x5_, x6_ =>
   ot x0 x1 K0 m (max x5_ ((ix ((ix x0.Tables x1).Keys) x6_).Kind)) (x6_ + 1)
def ud (x0 : aa) (x1 : Int) : Int :=
 LET (gb x0 x1) fun y101 =>
 if (!y101) then
  0
 else
 ot x0 x1 (fun (x5_115 : Int) =>
  x5_115) (Int.toNat ((((ix x0.Tables x1).Keys).length : Int) - 0)) 1 0
def wz (x0 : aa) (x1 : Int) (x2 : Int) : Bool :=
 LET (gb x0 x1) fun y101 =>
 (y101 && (decide (0 ≤ (ik ((ix x0.Tables x1).Actions) x2))))
def nk (x0 : aa) (x1 : Int) (x2 : aw) (y103 : (List Int)) (K0 : Unit → Int) : Nat → Int → Int
 | 0, x10_ => K0 ()
 | m + 1, x10_ =>
   LET (lw (ix x2.Keys x10_) (ix y103 x10_) ((ix ((ix x0.Tables x1).Keys) x10_).Kind)) fun y115 =>
   if (!decide (y115 = 0)) then
    y115
   else
   nk x0 x1 x2 y103 K0 m (x10_ + 1)
def nu (x0 : aa) (x1 : Int) (x2 : aw) : Int :=
 LET (gz x0 x1) fun y101 =>
 if (!decide (y101.2 = 0)) then
  y101.2
 else
 LET (br x0 x1) fun y103 =>
 if (!decide ((x2.Keys.length : Int) = (y103.length : Int))) then
  2
 else
 nk x0 x1 x2 y103 (fun (_ : Unit) =>
  if ((decide (x2.Priority < 0)) || (decide (255 < x2.Priority))) then
   9
  else
  if ((decide (0 < x2.Priority)) && (!decide ((ud x0 x1) = 3))) then
   11
  else
  LET (wz x0 x1 x2.Call.Action) fun y124 =>
  if (!y124) then
   8
  else
  LET (mj x0 x2.Call) fun y127 =>
  y127) (Int.toNat ((y103.length : Int) - 0)) 0
def pm (x2 : List am) (x9_ : Int) (K2 : Unit → Int) : Nat → Int → Int
 | 0, x10_ => K2 ()
 | m + 1, x10_ =>
   if ((decide (((ix x2 x10_).ID) = ((ix x2 x9_).ID))) || (qh ((ix x2 x10_).Entry) ((ix x2 x9_).Entry))) then
    7
   else
   pm x2 x9_ K2 m (x10_ + 1)
def lb (x0 : aa) (x1 : Int) (x2 : List am) (K0 : Unit → Int) : Nat → Int → Int
 | 0, x9_ => K0 ()
 | m + 1, x9_ =>
   LET (nu x0 x1 ((ix x2 x9_).Entry)) fun y107 =>
   if (!decide (y107 = 0)) then
    y107
   else
   pm x2 x9_ (fun (_ : Unit) =>
    lb x0 x1 x2 K0 m (x9_ + 1)) (Int.toNat (x9_ - 0)) 0
def mo (x0 : aa) (x1 : Int) (x2 : List am) : Int :=
 LET (gz x0 x1) fun y101 =>
 if (!decide (y101.2 = 0)) then
  y101.2
 else
 lb x0 x1 x2 (fun (_ : Unit) =>
  0) (Int.toNat ((x2.length : Int) - 0)) 0
def ku (x0 : UInt8) : Bool :=
 (((decide ((97 : UInt8) ≤ x0)) && (decide (x0 ≤ (122 : UInt8)))) || ((decide ((65 : UInt8) ≤ x0)) && (decide (x0 ≤ (90 : UInt8)))))
def lj (x0 : List UInt8) (x1 : UInt8 → Bool) (K0 : Int → Int) : Nat → Int → Int
 | 0, x5_ => K0 x5_
 | m + 1, x5_ =>
   if ((decide (x5_ < (x0.length : Int))) && (x1 (ix x0 x5_))) then
    lj x0 x1 K0 m (x5_ + 1)
   else
   K0 x5_
def sy (x0 : List UInt8) (x1 : UInt8 → Bool) : Int :=
 lj x0 x1 (fun (x5_107 : Int) =>
  x5_107) (Int.toNat ((x0.length : Int) - 0)) 0
def lq (x0 : UInt8) : Bool :=
 ((decide ((48 : UInt8) ≤ x0)) && (decide (x0 ≤ (57 : UInt8))))
def jv (x0 : UInt8) : Bool :=
 LET (ku x0) fun y101 =>
 ((y101 || (lq x0)) || (decide (x0 = (95 : UInt8))))
def mc (x0 : List UInt8) : Bool :=
 if (((decide ((x0.length : Int) = 0)) || (decide (16 < (x0.length : Int)))) || (!(ku (ix x0 0)))) then
  false
 else
 LET (sy x0 jv) fun y105 =>
 (decide (y105 = (x0.length : Int)))
def iq (x0 : List ct) (x1 : Int) : ct :=
 if ((decide (x1 < 0)) || (decide ((x0.length : Int) ≤ x1))) then
  ({ Name := ([] : List UInt8), Fields := ([] : List bz) } : ct)
 else
 (ix x0 x1)
def wx (x0 : aa) (x1 : Int) : (List bz) :=
 if (decide (x1 = (-1))) then
  x0.Metadata
 else
 LET (iq x0.Headers x1) fun y104 =>
 y104.Fields
def lu (x0 : List bz) (x1 : Int) : bz :=
 if ((decide (x1 < 0)) || (decide ((x0.length : Int) ≤ x1))) then
  ({ Name := ([] : List UInt8), Width := 0 } : bz)
 else
 (ix x0 x1)
def lh (x0 : List Int) (K0 : Unit → Bool) : Nat → Int → Bool
 | 0, x7_ => K0 ()
 | m + 1, x7_ =>
   if ((decide ((ix x0 x7_) < 1)) || (decide (32 < (ix x0 x7_)))) then
    false
   else
   lh x0 K0 m (x7_ + 1)
def jc (x0 : List Int) : Bool :=
 lh x0 (fun (_ : Unit) =>
  true) (Int.toNat ((x0.length : Int) - 0)) 0
def fc (x0 : Int) : (BitVec 32) :=
 LET (jc ([x0] : List Int)) fun y102 =>
 if (!y102) then
  0#32
 else
 (4294967295#32 >>> (wr (32 - x0)).toNat)
def qs (x0 : aa) (x1 : cm) : Int :=
 LET (wx x0 x1.Header) fun y101 =>
 LET (lu y101 x1.Field) fun y103 =>
 LET (fc y103.Width) fun y105 =>
 if (decide (y105 = 0#32)) then
  0
 else
 y103.Width
def iu (x0 : aa) (x1 : ax) (K0 : Int → Int → (Int × Int)) : Nat → Int → Int → Int → (Int × Int)
 | 0, x6_, x7_, x14_ => K0 x6_ x7_
 | m + 1, x6_, x7_, x14_ =>
   LET (qs x0 ((ix x1.Keys x14_).Field)) fun y109 =>
   if (decide (y109 = 0)) then
    (x14_, 8)
   else
   if (decide (((ix x1.Keys x14_).Kind) = 2)) then
    iu x0 x1 K0 m (wr (x6_ + 1)) (wr (x7_ + y109)) (x14_ + 1)
   else
   LET (fun (x33_113 : Bool) =>
    if x33_113 then
     iu x0 x1 K0 m x6_ (wr (x7_ + y109)) (x14_ + 1)
    else
    (x14_, 11)) fun k113 =>
   if (decide (((ix x1.Keys x14_).Kind) = 1)) then
    k113 (decide (((ix x1.Keys x14_).Kind) = 1))
   else
   k113 (decide (((ix x1.Keys x14_).Kind) = 3))
def mh (x0 : aa) (x1 : ax) : Int × Int :=
 iu x0 x1 (fun (x6_116 : Int) (x7_116 : Int) =>
  if (decide (1 < x6_116)) then
   ((-2), 7)
  else
  if (decide (64 < x7_116)) then
   ((-2), 10)
  else
  (0, 0)) (Int.toNat ((x1.Keys.length : Int) - 0)) 0 0 0
def kf (x0 : BitVec 32) (x1 : Int) : Bool :=
 LET (jc ([x1] : List Int)) fun y102 =>
 (y102 && (decide (x0 ≤ (fc x1))))
def jf (x0 : aa) (x1 : bb) (K0 : Unit → Int) : Nat → Int → Int
 | 0, x35_ => K0 ()
 | m + 1, x35_ =>
   LET (kf (ix x1.Args x35_) ((ix ((ix x0.Actions x1.Action).Params) x35_).Width)) fun y113 =>
   if (!y113) then
    9
   else
   jf x0 x1 K0 m (x35_ + 1)
def lr (x0 : aa) (x1 : bb) : Int :=
 if ((decide (x1.Action < 0)) || (decide ((x0.Actions.length : Int) ≤ x1.Action))) then
  8
 else
 if (!decide ((x1.Args.length : Int) = (((ix x0.Actions x1.Action).Params).length : Int))) then
  2
 else
 jf x0 x1 (fun (_ : Unit) =>
  0) (Int.toNat ((x1.Args.length : Int) - 0)) 0
def gu (x0 : aa) (x1 : ax) (K0 : (List (Int × Bool)) → Int) : Nat → Int → (List (Int × Bool)) → Int
 | 0, x12_, zE102 => K0 zE102
 | m + 1, x12_, zE102 =>
   if ((decide ((ix x1.Actions x12_) < 0)) || (decide ((x0.Actions.length : Int) ≤ (ix x1.Actions x12_)))) then
    8
   else
   if ((mget zE102 (ix x1.Actions x12_)).getD false) then
    7
   else
   gu x0 x1 K0 m (x12_ + 1) (mput zE102 (ix x1.Actions x12_) true)
def ly (x0 : aa) (x1 : ax) : Int :=
 gu x0 x1 (fun (zE102_112 : List (Int × Bool)) =>
  if (!((mget zE102_112 x1.Default.Action).getD false)) then
   8
  else
  LET (lr x0 x1.Default) fun y117 =>
  y117) (Int.toNat ((x1.Actions.length : Int) - 0)) 0 ([] : List (Int × Bool))
def ij (x0 : aa) (x1 : Int) : Int × Int :=
 if ((decide (x1 < 0)) || (decide ((x0.Tables.length : Int) ≤ x1))) then
  ((-1), 8)
 else
 LET (mc ((ix x0.Tables x1).Name)) fun y109 =>
 if (!y109) then
  ((-1), 6)
 else
 if ((decide (6 < (((ix x0.Tables x1).Keys).length : Int))) || (decide (16 < (((ix x0.Tables x1).Actions).length : Int)))) then
  ((-1), 12)
 else
 if ((decide (((ix x0.Tables x1).Size) < 1)) || (decide (256 < ((ix x0.Tables x1).Size)))) then
  ((-1), 9)
 else
 LET (mh x0 (ix x0.Tables x1)) fun y117 =>
 if (!decide (y117.2 = 0)) then
  (y117.1, y117.2)
 else
 LET (ly x0 (ix x0.Tables x1)) fun y119 =>
 if (!decide (y119 = 0)) then
  ((-3), y119)
 else
 (0, 0)
def gq (x0 : aa) (x1 : Int) : Bool :=
 LET (ij x0 x1) fun y101 =>
 (decide (y101.2 = 0))
def kg (x0 : aa) (x1 : Int) (K0 : (List Int) → (List Int)) : Nat → Int → (List Int) → (List Int)
 | 0, x19_, zE107 => K0 zE107
 | m + 1, x19_, zE107 =>
   LET (qs x0 ((ix ((ix x0.Tables x1).Keys) x19_).Field)) fun y115 =>
   kg x0 x1 K0 m (x19_ + 1) (zE107 ++ ([y115] : List Int))
def du (x0 : aa) (x1 : Int) : (List Int) :=
 LET (gq x0 x1) fun y101 =>
 if (!y101) then
  ([] : List Int)
 else
 kg x0 x1 (fun (zE107_118 : List Int) =>
  zE107_118) (Int.toNat ((((ix x0.Tables x1).Keys).length : Int) - 0)) 0 ([] : List Int)
def jn (x0 : Int) (x1 : Int) : (BitVec 32) :=
 LET (jc ([x1] : List Int)) fun y102 =>
 if (!y102) then
  0#32
 else
 LET (fc x1) fun y104 =>
 LET (fc x1) fun y105 =>
 (y104 &&& ~~~(y105 >>> (min (max x0 0) x1).toNat))
def fk (x0 : BitVec 32) (x1 : Int) (K0 : Unit → (Int × Bool)) : Nat → Int → (Int × Bool)
 | 0, x13_ => K0 ()
 | m + 1, x13_ =>
   LET (jn x13_ x1) fun y106 =>
   if (decide (y106 = x0)) then
    (x13_, true)
   else
   fk x0 x1 K0 m (x13_ + 1)
def ej (x0 : BitVec 32) (x1 : Int) : Int × Bool :=
 LET (jc ([x1] : List Int)) fun y102 =>
 if (!y102) then
  (0, false)
 else
 fk x0 x1 (fun (_ : Unit) =>
  (0, false)) (Int.toNat ((wr (x1 + 1)) - 0)) 0
def pp (x0 : ba) (x1 : Int) (x2 : Int) : Int :=
 LET (kf x0.Value x2) fun y101 =>
 if ((!y101) || (!(kf x0.Mask x2))) then
  9
 else
 if (!decide ((x0.Value &&& ~~~x0.Mask) = 0#32)) then
  5
 else
 if ((decide (x1 = 1)) && (!decide (x0.Mask = (fc x2)))) then
  11
 else
 LET (fun (_ : Unit) =>
  0) fun k112 =>
 if (decide (x1 = 2)) then
  LET (ej x0.Mask x2) fun y114 =>
  if (!y114.2) then
   11
  else
  k112 ()
 else
 k112 ()
def lm (x0 : aa) (x1 : Int) (K0 : Int → Int) : Nat → Int → Int → Int
 | 0, x5_, x19_ => K0 x5_
 | m + 1, x5_, x19_ =>
   if (decide (((ix ((ix x0.Tables x1).Keys) x19_).Kind) = 3)) then
    3
   else
   if (decide (((ix ((ix x0.Tables x1).Keys) x19_).Kind) = 2)) then
    lm x0 x1 K0 m 2 (x19_ + 1)
   else
   lm x0 x1 K0 m x5_ (x19_ + 1)
def iz (x0 : aa) (x1 : Int) : Int :=
 LET (gq x0 x1) fun y101 =>
 if (!y101) then
  0
 else
 lm x0 x1 (fun (x5_114 : Int) =>
  x5_114) (Int.toNat ((((ix x0.Tables x1).Keys).length : Int) - 0)) 1 0
def ki (x0 : aa) (x1 : Int) (x2 : Int) (K0 : Unit → Bool) : Nat → Int → Bool
 | 0, x20_ => K0 ()
 | m + 1, x20_ =>
   if (decide ((ix ((ix x0.Tables x1).Actions) x20_) = x2)) then
    true
   else
   ki x0 x1 x2 K0 m (x20_ + 1)
def py (x0 : aa) (x1 : Int) (x2 : Int) : Bool :=
 LET (gq x0 x1) fun y101 =>
 if (!y101) then
  false
 else
 ki x0 x1 x2 (fun (_ : Unit) =>
  false) (Int.toNat ((((ix x0.Tables x1).Actions).length : Int) - 0)) 0
def ma (x0 : aa) (x1 : Int) (x2 : aw) (y106 : (List Int)) (K0 : Unit → Int) : Nat → Int → Int
 | 0, x41_ => K0 ()
 | m + 1, x41_ =>
   LET (pp (ix x2.Keys x41_) ((ix ((ix x0.Tables x1).Keys) x41_).Kind) (ix y106 x41_)) fun y118 =>
   if (!decide (y118 = 0)) then
    y118
   else
   ma x0 x1 x2 y106 K0 m (x41_ + 1)
def mr (x0 : aa) (x1 : Int) (x2 : aw) : Int :=
 LET (ij x0 x1) fun y101 =>
 if (!decide (y101.2 = 0)) then
  y101.2
 else
 LET (du x0 x1) fun y106 =>
 if (!decide ((x2.Keys.length : Int) = (((ix x0.Tables x1).Keys).length : Int))) then
  2
 else
 ma x0 x1 x2 y106 (fun (_ : Unit) =>
  if ((decide (x2.Priority < 0)) || (decide (255 < x2.Priority))) then
   9
  else
  if ((!decide (x2.Priority = 0)) && (!decide ((iz x0 x1) = 3))) then
   11
  else
  LET (py x0 x1 x2.Call.Action) fun y127 =>
  if (!y127) then
   8
  else
  LET (lr x0 x2.Call) fun y130 =>
  y130) (Int.toNat ((x2.Keys.length : Int) - 0)) 0
def kr (x0 : aw) (x1 : aw) (K0 : Unit → Bool) : Nat → Int → Bool
 | 0, x24_ => K0 ()
 | m + 1, x24_ =>
   if (!decide ((ix x0.Keys x24_) = (ix x1.Keys x24_))) then
    false
   else
   kr x0 x1 K0 m (x24_ + 1)
def jo (x0 : aw) (x1 : aw) : Bool :=
 if ((!decide (x0.Priority = x1.Priority)) || (!decide ((x0.Keys.length : Int) = (x1.Keys.length : Int)))) then
  false
 else
 kr x0 x1 (fun (_ : Unit) =>
  true) (Int.toNat ((x0.Keys.length : Int) - 0)) 0
def na (y101 : (List Int)) (K0 : Int → Int) : Nat → Int → Int → Int
 | 0, x5_, x12_ => K0 x5_
 | m + 1, x5_, x12_ =>
   na y101 K0 m (wr (x5_ + (ix y101 x12_))) (x12_ + 1)
def jk (x0 : aa) (x1 : Int) : Int :=
 LET (du x0 x1) fun y101 =>
 na y101 (fun (x5_105 : Int) =>
  x5_105) (Int.toNat ((y101.length : Int) - 0)) 0 0
def ky (x0 : aw) (x1 : List Int) (K0 : ae → ae) : Nat → Int → ae → ae
 | 0, x11_, zE104 => K0 zE104
 | m + 1, x11_, zE104 =>
   ky x0 x1 K0 m (x11_ + 1) ({ Value := ((zE104.Value <<< (ix x1 x11_).toNat) ||| (BitVec.setWidth 64 ((ix x0.Keys x11_).Value))), Mask := ((zE104.Mask <<< (ix x1 x11_).toNat) ||| (BitVec.setWidth 64 ((ix x0.Keys x11_).Mask))) } : ae)
def gj (x0 : aw) (x1 : List Int) : ae :=
 ky x0 x1 (fun (zE104_116 : ae) =>
  zE104_116) (Int.toNat ((x0.Keys.length : Int) - 0)) 0 ({ Value := 0#64, Mask := 0#64 } : ae)
def lc (x0 : ae) (x1 : ae) : Bool :=
 ((decide ((x1.Mask &&& ~~~x0.Mask) = 0#64)) && (decide (((x0.Value ^^^ x1.Value) &&& x1.Mask) = 0#64)))
def gy (x0 : List ae) (x1 : Int) (K0 : Unit → Bool) : Nat → Int → Bool
 | 0, x9_ => K0 ()
 | m + 1, x9_ =>
   if ((decide (x9_ = x1)) || (!(lc (ix x0 x1) (ix x0 x9_)))) then
    gy x0 x1 K0 m (x9_ + 1)
   else
   LET (lc (ix x0 x9_) (ix x0 x1)) fun y112 =>
   if ((!y112) || (decide (x9_ < x1))) then
    true
   else
   gy x0 x1 K0 m (x9_ + 1)
def pd (x0 : List ae) (x1 : Int) : Bool :=
 gy x0 x1 (fun (_ : Unit) =>
  false) (Int.toNat ((x0.length : Int) - 0)) 0
def il (x0 : List ae) (K0 : (List ae) → (List ae)) : Nat → Int → (List ae) → (List ae)
 | 0, x8_, zE102 => K0 zE102
 | m + 1, x8_, zE102 =>
   LET (pd x0 x8_) fun y109 =>
   if (!y109) then
    il x0 K0 m (x8_ + 1) (zE102 ++ ([({ Value := (((ix x0 x8_).Value) &&& ((ix x0 x8_).Mask)), Mask := (ix x0 x8_).Mask } : ae)] : List ae))
   else
   il x0 K0 m (x8_ + 1) zE102
def nl (x0 : List ae) : (List ae) :=
 il x0 (fun (zE102_113 : List ae) =>
  zE102_113) (Int.toNat ((x0.length : Int) - 0)) 0 ([] : List ae)
def fi (x0 : List ae) : (List ae) × Int :=
 LET (nl x0) fun y101 =>
 if (decide (1024 < (y101.length : Int))) then
  (([] : List ae), 12)
 else
 (y101, 0)
def jl (x0 : List ae) (x1 : Int) (K0 : (List ae) → (List ae)) : Nat → Int → (List ae) → (List ae)
 | 0, x15_, zE102 => K0 zE102
 | m + 1, x15_, zE102 =>
   jl x0 x1 K0 m (x15_ + 1) (zE102 ++ ([({ Value := (((ix x0 x15_).Value) &&& (((ix x0 x15_).Mask) &&& (18446744073709551615#64 >>> (wr (64 - x1)).toNat))), Mask := (((ix x0 x15_).Mask) &&& (18446744073709551615#64 >>> (wr (64 - x1)).toNat)) } : ae)] : List ae))
def js (x0 : List ae) (x1 : Int) : (List ae) :=
 jl x0 x1 (fun (zE102_111 : List ae) =>
  zE102_111) (Int.toNat ((x0.length : Int) - 0)) 0 ([] : List ae)
def qi (x0 : Int) : Bool :=
 ((decide (1 ≤ x0)) && (decide (x0 ≤ 64)))
def dy (x0 : Int) : (BitVec 64) :=
 (18446744073709551615#64 >>> (wr (64 - x0)).toNat)
def fd (x0 : ae) : ae :=
 ({ Value := (x0.Value &&& x0.Mask), Mask := x0.Mask } : ae)
def io (x0 : ae) (x1 : ae) : ae × Bool :=
 if (!decide ((((x0.Value ^^^ x1.Value) &&& x0.Mask) &&& x1.Mask) = 0#64)) then
  (({ Value := 0#64, Mask := 0#64 } : ae), false)
 else
 (({ Value := ((x0.Value &&& x0.Mask) ||| (x1.Value &&& x1.Mask)), Mask := (x0.Mask ||| x1.Mask) } : ae), true)
def cd (x0 : BitVec 64) : Int := if x0 = 0#64 then 0 else ((Nat.log2 x0.toNat : Nat) : Int) + 1
def eg (y : ae) : Nat → BitVec 64 → ae → List ae
 | 0, _, _ => []
 | m + 1, left, rest => if left = 0#64 then [] else
   ({ Value := rest.Value ||| (~~~y.Value &&& (1#64 <<< (cd left - 1).toNat)), Mask := rest.Mask ||| (1#64 <<< (cd left - 1).toNat) } : ae) ::
     eg y m (left &&& ~~~(1#64 <<< (cd left - 1).toNat)) ({ Value := rest.Value ||| (y.Value &&& (1#64 <<< (cd left - 1).toNat)), Mask := rest.Mask ||| (1#64 <<< (cd left - 1).toNat) } : ae)
def cn (x0 x1 : ae) (x2 : Int) : List ae :=
 if (!qi x2) = true then [] else
 LET (fd ({ Value := x0.Value, Mask := x0.Mask &&& dy x2 } : ae)) fun a =>
 LET (fd ({ Value := x1.Value, Mask := x1.Mask &&& dy x2 } : ae)) fun b =>
 if (!(io a b).2) = true then [a] else eg b 64 (b.Mask &&& ~~~a.Mask) a
def iy (w : Int) : List ae → List ae → List ae × Int
 | [], out => (out, 0)
 | x :: b, out => LET (fi (out.flatMap fun c => cn c x w)) fun q => if (!decide (q.2 = 0)) = true then ([], q.2) else iy w b q.1
def en (x0 x1 : List ae) (x2 : Int) : List ae × Int :=
 if (decide (x2 < 1) || decide (64 < x2)) = true then ([], 10) else
 LET (fi (js x0 x2)) fun q => if (!decide (q.2 = 0)) = true then ([], q.2) else iy x2 x1 q.1
def bq (x0 : List bg) (x1 : bg → Bool) (K0 : Unit → Int) : Nat → Int → Int
 | 0, x8_ => K0 ()
 | m + 1, x8_ =>
   if (x1 (ix x0 x8_)) then
    x8_
   else
   bq x0 x1 K0 m (x8_ + 1)
def gw (x0 : List bg) (x1 : bg → Bool) : Int :=
 bq x0 x1 (fun (_ : Unit) =>
  (-1)) (Int.toNat ((x0.length : Int) - 0)) 0
def jw (x0 : aw) (K0 : (List (BitVec 32)) → (List (BitVec 32))) : Nat → Int → (List (BitVec 32)) → (List (BitVec 32))
 | 0, x9_, zE103 => K0 zE103
 | m + 1, x9_, zE103 =>
   jw x0 K0 m (x9_ + 1) (zE103 ++ ([(ix x0.Keys x9_).Value] : List (BitVec 32)))
def oq (x0 : aw) : (List (BitVec 32)) :=
 jw x0 (fun (zE103_112 : List (BitVec 32)) =>
  zE103_112) (Int.toNat ((x0.Keys.length : Int) - 0)) 0 ([] : List (BitVec 32))
def gx (p : aa) (t : Int) (W : List Int) (l : List am) (r : am) : List ae := (l.filter fun x => de p t x r).map fun x => gj x.Entry W
def fu (p : aa) (t : Int) (W : List Int) (n : Int) (l : List am) : List am → List Int → List Int × Int
 | [], out => (out.mergeSort fun x y => decide (x ≤ y), 0)
 | r :: rs, out => LET (en [gj r.Entry W] (gx p t W l r) n) fun q => if (!decide (q.2 = 0)) = true then ([], q.2) else fu p t W n l rs (if decide ((q.1.length : Int) = 0) = true then out ++ [r.ID] else out)
def dn (p : aa) (t : Int) (l : List am) : List Int × Int :=
 LET (mo p t l) fun e => if (!decide (e = 0)) = true then ([], e) else
 if decide (jk p t = 0) = true then ([], 0) else fu p t (du p t) (jk p t) l l []
def zk (x2 : aw) (y103 : (List Int)) (K0 : ae → ae) : Nat → Int → ae → ae
 | 0, x9_, zE106 => K0 zE106
 | m + 1, x9_, zE106 =>
   if ((decide (x9_ < (y103.length : Int))) && (decide (x9_ < (x2.Keys.length : Int)))) then
    zk x2 y103 K0 m (x9_ + 1) ({ Value := ((zE106.Value <<< (ix y103 x9_).toNat) ||| (BitVec.setWidth 64 ((ix x2.Keys x9_).Value))), Mask := ((zE106.Mask <<< (ix y103 x9_).toNat) ||| (BitVec.setWidth 64 ((ix x2.Keys x9_).Mask))) } : ae)
   else
   K0 zE106
def al9 (x0 : aa) (x1 : Int) (x2 : aw) : ae :=
 LET (br x0 x1) fun y103 =>
 zk x2 y103 (fun (zE106_122 : ae) =>
  zE106_122) (Int.toNat ((y103.length : Int) - 0)) 0 ({ Value := 0#64, Mask := 0#64 } : ae)
def fe (y101 : (List Int)) (K0 : Int → Int) : Nat → Int → Int → Int
 | 0, x6_, x7_ => K0 x6_
 | m + 1, x6_, x7_ =>
   fe y101 K0 m (wr (x6_ + (ix y101 x7_))) (x7_ + 1)
def fx (x0 : aa) (x1 : Int) : Int :=
 LET (br x0 x1) fun y101 =>
 fe y101 (fun (x6_105 : Int) =>
  x6_105) (Int.toNat ((y101.length : Int) - 0)) 0 0
def an9 (x0 : Int) : (BitVec 64) :=
 (((1#64 <<< (BitVec.ofInt 64 (wr (x0 - 1))).toNat) * 2#64) - 1#64)
def gm (x0 : ae) (x1 : ae) : Bool :=
 ((decide ((x0.Mask &&& x1.Mask) = x1.Mask)) && (decide ((x0.Value &&& x1.Mask) = (x1.Value &&& x1.Mask))))
def kp (x0 : List ae) (x1 : Int) (K0 : Unit → Bool) : Nat → Int → Bool
 | 0, x5_ => K0 ()
 | m + 1, x5_ =>
   if (((!decide (x5_ = x1)) && (gm (ix x0 x1) (ix x0 x5_))) && ((decide (x5_ < x1)) || (!(gm (ix x0 x5_) (ix x0 x1))))) then
    true
   else
   kp x0 x1 K0 m (x5_ + 1)
def ml (x0 : List ae) (x1 : Int) : Bool :=
 kp x0 x1 (fun (_ : Unit) =>
  false) (Int.toNat ((x0.length : Int) - 0)) 0
def jm (x0 : List ae) (K0 : (List ae) → (List ae)) : Nat → Int → (List ae) → (List ae)
 | 0, x4_, zE102 => K0 zE102
 | m + 1, x4_, zE102 =>
   LET (ml x0 x4_) fun y105 =>
   if (!y105) then
    jm x0 K0 m (x4_ + 1) (zE102 ++ ([({ Value := (((ix x0 x4_).Value) &&& ((ix x0 x4_).Mask)), Mask := (ix x0 x4_).Mask } : ae)] : List ae))
   else
   jm x0 K0 m (x4_ + 1) zE102
def rb (x0 : List ae) : (List ae) :=
 jm x0 (fun (zE102_112 : List ae) =>
  zE102_112) (Int.toNat ((x0.length : Int) - 0)) 0 ([] : List ae)
def uk (x0 : List ae) : (List ae) × Int :=
 LET (rb x0) fun y101 =>
 if (decide (1024 < (y101.length : Int))) then
  (([] : List ae), 12)
 else
 (y101, 0)
def tn (K0 : (BitVec 64) → (BitVec 64)) : Nat → (BitVec 64) → Int → (BitVec 64)
 | 0, x3_, x4_ => K0 x3_
 | m + 1, x3_, x4_ =>
   tn K0 m ((2#64 * x3_) + 1#64) (x4_ + 1)
def wl (x0 : Int) : (BitVec 64) :=
 tn (fun (x3_103 : BitVec 64) =>
  x3_103) (Int.toNat (x0 - 0)) 0#64 0
def jd (x0 : ae) (x1 : Int) : ae :=
 LET (wl x1) fun y103 =>
 ({ Value := (x0.Value &&& (x0.Mask &&& y103)), Mask := (x0.Mask &&& y103) } : ae)
def mm (x0 : ae) (x1 : ae) : ae × Bool :=
 if (!decide ((x0.Value &&& (x0.Mask &&& x1.Mask)) = (x1.Value &&& (x0.Mask &&& x1.Mask)))) then
  (({ Value := 0#64, Mask := 0#64 } : ae), false)
 else
 (({ Value := ((x0.Value &&& x0.Mask) ||| (x1.Value &&& x1.Mask)), Mask := (x0.Mask ||| x1.Mask) } : ae), true)
def ip (y105 : ae) (K0 : (List ae) → ae → (List ae)) : Nat → Int → (List ae) → ae → (List ae)
 | 0, x12_, zE127, zE108 => K0 zE127 zE108
 | m + 1, x12_, zE127, zE108 =>
   if (decide (0 ≤ x12_)) then
    if ((!decide ((y105.Mask &&& (1#64 <<< (BitVec.ofInt 64 x12_).toNat)) = 0#64)) && (decide ((zE108.Mask &&& (1#64 <<< (BitVec.ofInt 64 x12_).toNat)) = 0#64))) then
     ip y105 K0 m (wr (x12_ - 1)) (zE127 ++ ([({ Value := (zE108.Value ||| ((y105.Value &&& (1#64 <<< (BitVec.ofInt 64 x12_).toNat)) ^^^ (1#64 <<< (BitVec.ofInt 64 x12_).toNat))), Mask := (zE108.Mask ||| (1#64 <<< (BitVec.ofInt 64 x12_).toNat)) } : ae)] : List ae)) ({ Value := (zE108.Value ||| (y105.Value &&& (1#64 <<< (BitVec.ofInt 64 x12_).toNat))), Mask := (zE108.Mask ||| (1#64 <<< (BitVec.ofInt 64 x12_).toNat)) } : ae)
    else
    ip y105 K0 m (wr (x12_ - 1)) zE127 zE108
   else
   K0 zE127 zE108
def rh (x0 : ae) (x1 : ae) (x2 : Int) : (List ae) :=
 if ((decide (x2 < 1)) || (decide (64 < x2))) then
  ([] : List ae)
 else
 LET (jd x0 x2) fun y103 =>
 LET (jd x1 x2) fun y105 =>
 LET (gm y103 y105) fun y113 =>
 if y113 then
  ([] : List ae)
 else
 LET (mm y103 y105) fun y115 =>
 if (!y115.2) then
  ([y103] : List ae)
 else
 ip y105 (fun (zE127_137 : List ae) (zE108_137 : ae) =>
  zE127_137) (Int.toNat ((wr (x2 - 1)) + 1)) (wr (x2 - 1)) ([] : List ae) y103
def uu (x0 : List ae) (x2 : Int) (K0 : (List ae) → ((List ae) × Int)) : Nat → Int → (List ae) → ((List ae) × Int)
 | 0, x9_, zE104 => K0 zE104
 | m + 1, x9_, zE104 =>
   LET (an9 x2) fun y109 =>
   uu x0 x2 K0 m (x9_ + 1) (zE104 ++ ([({ Value := (ix x0 x9_).Value, Mask := (((ix x0 x9_).Mask) &&& y109) } : ae)] : List ae))
def vj (x1 : List ae) (x2 : Int) (x8_ : List ae) (x11_ : Int) (K4 : (List ae) → ((List ae) × Int)) : Nat → Int → (List ae) → ((List ae) × Int)
 | 0, x13_, zE121 => K4 zE121
 | m + 1, x13_, zE121 =>
   LET (rh (ix x8_ x13_) (ix x1 x11_) x2) fun y126 =>
   vj x1 x2 x8_ x11_ K4 m (x13_ + 1) (zE121 ++ y126)
def uw (x1 : List ae) (x2 : Int) (K2 : (List ae) → Int → ((List ae) × Int)) : Nat → (List ae) → Int → Int → ((List ae) × Int)
 | 0, x8_, x10_, x11_ => K2 x8_ x10_
 | m + 1, x8_, x10_, x11_ =>
   if ((decide (x11_ < (x1.length : Int))) && (decide (x10_ = 0))) then
    vj x1 x2 x8_ x11_ (fun (zE121_129 : List ae) =>
     LET (uk zE121_129) fun y131 =>
     uw x1 x2 K2 m y131.1 y131.2 (x11_ + 1)) (Int.toNat ((x8_.length : Int) - 0)) 0 ([] : List ae)
   else
   K2 x8_ x10_
def am9 (x0 : List ae) (x1 : List ae) (x2 : Int) : (List ae) × Int :=
 if ((decide (x2 < 1)) || (decide (64 < x2))) then
  (([] : List ae), 10)
 else
 uu x0 x2 (fun (zE104_112 : List ae) =>
  LET (uk zE104_112) fun y114 =>
  uw x1 x2 (fun (x8_133 : List ae) (x10_133 : Int) =>
   if (!decide (x10_133 = 0)) then
    (([] : List ae), x10_133)
   else
   (x8_133, 0)) (Int.toNat ((x1.length : Int) - 0)) y114.1 y114.2 0) (Int.toNat ((x0.length : Int) - 0)) 0 ([] : List ae)
def xp (x0 : List Int) (x1 : Int) (K0 : Int → (List Int)) : Nat → Int → (List Int)
 | 0, x5_ => K0 x5_
 | m + 1, x5_ =>
   if ((decide (x5_ < (x0.length : Int))) && (decide ((ix x0 x5_) < x1))) then
    xp x0 x1 K0 m (x5_ + 1)
   else
   K0 x5_
def aw2 (x0 : List Int) (x1 : Int) : (List Int) :=
 xp x0 x1 (fun (x5_105 : Int) =>
  (((sub x0 0 x5_105) ++ ([x1] : List Int)) ++ (sub x0 x5_105 (x0.length : Int)))) (Int.toNat ((x0.length : Int) - 0)) 0
def rn (x0 : aa) (x1 : Int) (x2 : List am) (x10_ : Int) (K2 : (List ae) → ((List Int) × Int)) : Nat → Int → (List ae) → ((List Int) × Int)
 | 0, x12_, zE110 => K2 zE110
 | m + 1, x12_, zE110 =>
   LET (rp x0 x1 (ix x2 x12_) (ix x2 x10_)) fun y115 =>
   if y115 then
    LET (al9 x0 x1 ((ix x2 x12_).Entry)) fun y119 =>
    rn x0 x1 x2 x10_ K2 m (x12_ + 1) (zE110 ++ ([y119] : List ae))
   else
   rn x0 x1 x2 x10_ K2 m (x12_ + 1) zE110
def rj (x0 : aa) (x1 : Int) (x2 : List am) (K0 : (List Int) → ((List Int) × Int)) : Nat → (List Int) → Int → ((List Int) × Int)
 | 0, x9_, x10_ => K0 x9_
 | m + 1, x9_, x10_ =>
   rn x0 x1 x2 x10_ (fun (zE110_123 : List ae) =>
    LET (al9 x0 x1 ((ix x2 x10_).Entry)) fun y127 =>
    LET (fx x0 x1) fun y130 =>
    LET (am9 ([y127] : List ae) zE110_123 y130) fun y131 =>
    if (!decide (y131.2 = 0)) then
     (([] : List Int), y131.2)
    else
    if (decide ((y131.1.length : Int) = 0)) then
     LET (aw2 x9_ ((ix x2 x10_).ID)) fun y136 =>
     rj x0 x1 x2 K0 m y136 (x10_ + 1)
    else
    rj x0 x1 x2 K0 m x9_ (x10_ + 1)) (Int.toNat ((x2.length : Int) - 0)) 0 ([] : List ae)
def aj7 (x0 : aa) (x1 : Int) (x2 : List am) : (List Int) × Int :=
 LET (mo x0 x1 x2) fun y101 =>
 if (!decide (y101 = 0)) then
  (([] : List Int), y101)
 else
 if (decide ((((ix x0.Tables x1).Keys).length : Int) = 0)) then
  (([] : List Int), 0)
 else
 rj x0 x1 x2 (fun (x9_138 : List Int) =>
  (x9_138, 0)) (Int.toNat ((x2.length : Int) - 0)) ([] : List Int) 0
def uf (x0 : List Int) (x1 : List Int) (K0 : Unit → Bool) : Nat → Int → Bool
 | 0, x5_ => K0 ()
 | m + 1, x5_ =>
   if (!decide ((ix x0 x5_) = (ix x1 x5_))) then
    false
   else
   uf x0 x1 K0 m (x5_ + 1)
def ag9 (x0 : List Int) (x1 : List Int) : Bool :=
 if (!decide ((x0.length : Int) = (x1.length : Int))) then
  false
 else
 uf x0 x1 (fun (_ : Unit) =>
  true) (Int.toNat ((x0.length : Int) - 0)) 0
def az8 (x0 : bm) : Bool :=
 LET (gc x0) fun y101 =>
 if y101 then
  LET (kj) fun y103 =>
  y103
 else
 LET (dn x0.Program x0.Table x0.Rows) fun y106 =>
 LET (aj7 x0.Program x0.Table x0.Rows) fun y110 =>
 LET (ag9 y106.1 y110.1) fun y112 =>
 ((y112 && (decide (y106.2 = y110.2))) && (kj))
def sk (K0 : (BitVec 64) → Bool) : Nat → (BitVec 64) → Int → Bool
 | 0, x5_, x6_ => K0 x5_
 | m + 1, x5_, x6_ =>
   sk K0 m (2#64 * x5_) (x6_ + 1)
def ww (x0 : BitVec 32) (x1 : Int) : Bool :=
 sk (fun (x5_103 : BitVec 64) =>
  (decide ((BitVec.setWidth 64 x0) < x5_103))) (Int.toNat (x1 - 0)) 1#64 0
def wd (y102 : (List Int)) (x5_ : Int) (K2 : (BitVec 32) → (List (BitVec 32))) : Nat → (BitVec 32) → (List (BitVec 32))
 | 0, x6_ => K2 x6_
 | m + 1, x6_ =>
   LET (ww x6_ (ix y102 x5_)) fun y114 =>
   if (!y114) then
    wd y102 x5_ K2 m (x6_ / 2#32)
   else
   K2 x6_
def wj (x0 : bm) (y102 : (List Int)) (K0 : (List (BitVec 32)) → (List (BitVec 32))) : Nat → Int → (List (BitVec 32)) → (List (BitVec 32))
 | 0, x5_, zE105 => K0 zE105
 | m + 1, x5_, zE105 =>
   LET (fun (x6_111 : BitVec 32) =>
    wd y102 x5_ (fun (x6_116 : BitVec 32) =>
     wj x0 y102 K0 m (x5_ + 1) (zE105 ++ ([x6_116] : List (BitVec 32)))) (Int.toNat ((x6_111.toNat : Int))) x6_111) fun k111 =>
   if (decide (x5_ < (x0.Key.length : Int))) then
    k111 (ix x0.Key x5_)
   else
   k111 0#32
def an8 (x0 : bm) : (List (BitVec 32)) :=
 LET (br x0.Program x0.Table) fun y102 =>
 wj x0 y102 (fun (zE105_121 : List (BitVec 32)) =>
  zE105_121) (Int.toNat ((y102.length : Int) - 0)) 0 ([] : List (BitVec 32))
def ld (x0 : List Int) (x1 : Int) (K0 : Unit → Bool) : Nat → Int → Bool
 | 0, x5_ => K0 ()
 | m + 1, x5_ =>
   if (decide ((ix x0 x5_) = x1)) then
    true
   else
   ld x0 x1 K0 m (x5_ + 1)
def nr (x0 : List Int) (x1 : Int) : Bool :=
 ld x0 x1 (fun (_ : Unit) =>
  false) (Int.toNat ((x0.length : Int) - 0)) 0
def pn (x0 : bm) (y106 : (List Int) × Int) (K0 : (List am) → Bool) : Nat → Int → (List am) → Bool
 | 0, x7_, zE113 => K0 zE113
 | m + 1, x7_, zE113 =>
   LET (nr y106.1 ((ix x0.Rows x7_).ID)) fun y120 =>
   if (!y120) then
    pn x0 y106 K0 m (x7_ + 1) (zE113 ++ ([(ix x0.Rows x7_)] : List am))
   else
   pn x0 y106 K0 m (x7_ + 1) zE113
def bn0 (x0 : bm) : Bool :=
 LET (gc x0) fun y101 =>
 if y101 then
  LET (kj) fun y103 =>
  y103
 else
 LET (dn x0.Program x0.Table x0.Rows) fun y106 =>
 if (!decide (y106.2 = 0)) then
  LET (kj) fun y109 =>
  y109
 else
 LET (an8 x0) fun y110 =>
 pn x0 y106 (fun (zE113_126 : List am) =>
  LET (ga x0.Program x0.Table x0.Rows y110) fun y129 =>
  LET (ga x0.Program x0.Table zE113_126 y110) fun y137 =>
  LET (af4 y129.1 y137.1) fun y142 =>
  (((y142 && (decide (y129.2 = y137.2))) && ((!y129.2) || (!(nr y106.1 y129.1.ID)))) && (kj))) (Int.toNat ((x0.Rows.length : Int) - 0)) 0 ([] : List am)
def dv (x0 : bm) (y107 : (List Int)) (K0 : (List Int) → Bool) : Nat → Int → (List Int) → Bool
 | 0, x8_, zE121 => K0 zE121
 | m + 1, x8_, zE121 =>
   LET (fun (x9_127 : List (BitVec 32)) =>
    LET (ga x0.Program x0.Table x0.Rows x9_127) fun y130 =>
    if y130.2 then
     dv x0 y107 K0 m (x8_ + 1) (zE121 ++ ([y130.1.ID] : List Int))
    else
    dv x0 y107 K0 m (x8_ + 1) zE121) fun k127 =>
   if (decide ((y107.length : Int) = 2)) then
    k127 ([(BitVec.ofInt 32 (shrI x8_ (ix y107 1))), (BitVec.ofInt 32 (Int.tmod x8_ (shlI 1 (ix y107 1))))] : List (BitVec 32))
   else
   k127 ([(BitVec.ofInt 32 x8_)] : List (BitVec 32))
def gh (x0 : bm) (y113 : (List Int) × Int) (zE121_140 : List Int) (K2 : Unit → Bool) : Nat → Int → Bool
 | 0, x12_ => K2 ()
 | m + 1, x12_ =>
   LET (nr zE121_140 ((ix x0.Rows x12_).ID)) fun y147 =>
   LET (nr y113.1 ((ix x0.Rows x12_).ID)) fun y151 =>
   if (decide (y147 = y151)) then
    false
   else
   gh x0 y113 zE121_140 K2 m (x12_ + 1)
def kw (x0 : bm) : Bool :=
 LET (gc x0) fun y101 =>
 if (y101 || (decide (10 < (x0.Rows.length : Int)))) then
  LET (kj) fun y105 =>
  y105
 else
 LET (br x0.Program x0.Table) fun y107 =>
 LET (fx x0.Program x0.Table) fun y110 =>
 LET (dn x0.Program x0.Table x0.Rows) fun y113 =>
 if ((((!decide (y113.2 = 0)) || (decide ((y107.length : Int) = 0))) || (decide (2 < (y107.length : Int)))) || (decide (8 < y110))) then
  LET (kj) fun y119 =>
  y119
 else
 dv x0 y107 (fun (zE121_140 : List Int) =>
  gh x0 y113 zE121_140 (fun (_ : Unit) =>
   LET (kj) fun y154 =>
   y154) (Int.toNat ((x0.Rows.length : Int) - 0)) 0) (Int.toNat ((shlI 1 y110) - 0)) 0 ([] : List Int)
end Go.Proofs.YthdnpgpnodgicaaGreat
