import Derived.Test.YthdnpgpnodgicaaGreatKTy
set_option linter.unusedVariables false
set_option linter.unusedSimpArgs false
set_option maxRecDepth 100000
namespace Go.Proofs.YthdnpgpnodgicaaGreat
open Go Go.Pb Go.RowKit
def ng (x0 : List aj) (x1 : Int) (rec_ : (List aj) → Int → Int) (K0 : Int → Int) : Nat → Int → Int → Int
 | 0, x5_, x6_ => K0 x5_
 | m + 1, x5_, x6_ =>
   if ((decide (x6_ < (x0.length : Int))) && (decide (x5_ < 100))) then
    if ((decide (x1 = 0)) || (decide (40 < (((ix x0 x6_).Cond).length : Int)))) then
     100
    else
    LET (rec_ ((ix x0 x6_).Then) (wr (x1 - 1))) fun y111 =>
    LET (rec_ ((ix x0 x6_).Else) (wr (x1 - 1))) fun y114 =>
    ng x0 x1 rec_ K0 m (wr ((wr (x5_ + y111)) + y114)) (x6_ + 1)
   else
   K0 x5_
def pq (rec_ : (List aj) → Int → Int) (x0 : List aj) (x1 : Int) : Int :=
 ng x0 x1 rec_ (fun (x5_115 : Int) =>
  x5_115) (Int.toNat ((x0.length : Int) - 0)) (x0.length : Int) 0
def mq : Nat → (List aj) → Int → Int
 | 0, _, _ => default
 | n_ + 1, x0, x1 => pq (mq n_) x0 x1
def na (x0 : List aj) (x1 : Int) : Int := mq (x1.toNat + 1) x0 x1
def my (x0 : cg) (K0 : Unit → Bool) : Nat → Int → Bool
 | 0, x3_ => K0 ()
 | m + 1, x3_ =>
   if (decide (30 < (((ix x0.Fields x3_).Name).length : Int))) then
    false
   else
   my x0 K0 m (x3_ + 1)
def tz (x0 : cg) : Bool :=
 if ((decide (30 < (x0.Name.length : Int))) || (decide (20 < (x0.Fields.length : Int)))) then
  false
 else
 my x0 (fun (_ : Unit) =>
  true) (Int.toNat ((x0.Fields.length : Int) - 0)) 0
def ju (x0 : cn) (K0 : Unit → Bool) : Nat → Int → Bool
 | 0, x3_ => K0 ()
 | m + 1, x3_ =>
   if ((decide (40 < (((ix x0.Body x3_).Index).length : Int))) || (decide (40 < (((ix x0.Body x3_).Value).length : Int)))) then
    true
   else
   ju x0 K0 m (x3_ + 1)
def ow (x0 : cn) : Bool :=
 if (((decide (8 < (x0.Params.length : Int))) || (decide (16 < (x0.Body.length : Int)))) || (decide (60 < (x0.Name.length : Int)))) then
  true
 else
 ju x0 (fun (_ : Unit) =>
  false) (Int.toNat ((x0.Body.length : Int) - 0)) 0
def pf (x0 : cf) : Bool :=
 (((decide (8 < (x0.Extract.length : Int))) || (decide (12 < (x0.Cases.length : Int)))) || (decide (60 < (x0.Name.length : Int))))
def lj (x0 : aa) (K0 : Unit → Bool) : Nat → Int → Bool
 | 0, x3_ => K0 ()
 | m + 1, x3_ =>
   LET (tz (ix x0.Headers x3_)) fun y125 =>
   if (!y125) then
    true
   else
   lj x0 K0 m (x3_ + 1)
def lh (x0 : aa) (K2 : Unit → Bool) : Nat → Int → Bool
 | 0, x4_ => K2 ()
 | m + 1, x4_ =>
   LET (ow (ix x0.Actions x4_)) fun y134 =>
   if y134 then
    true
   else
   lh x0 K2 m (x4_ + 1)
def lq (x0 : aa) (K4 : Unit → Bool) : Nat → Int → Bool
 | 0, x5_ => K4 ()
 | m + 1, x5_ =>
   if ((((decide (10 < (((ix x0.Tables x5_).Keys).length : Int))) || (decide (24 < (((ix x0.Tables x5_).Actions).length : Int)))) || (decide (8 < ((((ix x0.Tables x5_).Default).Args).length : Int)))) || (decide (60 < (((ix x0.Tables x5_).Name).length : Int)))) then
    true
   else
   lq x0 K4 m (x5_ + 1)
def ll (x0 : aa) (K6 : Unit → Bool) : Nat → Int → Bool
 | 0, x6_ => K6 ()
 | m + 1, x6_ =>
   LET (pf (ix x0.States x6_)) fun y164 =>
   if y164 then
    true
   else
   ll x0 K6 m (x6_ + 1)
def lv (x0 : aa) : Bool :=
 if (((((((((decide (60 < (x0.Name.length : Int))) || (decide (16 < (x0.Headers.length : Int)))) || (decide (20 < (x0.Metadata.length : Int)))) || (decide (8 < (x0.Registers.length : Int)))) || (decide (24 < (x0.Actions.length : Int)))) || (decide (16 < (x0.Tables.length : Int)))) || (decide (16 < (x0.States.length : Int)))) || (decide (16 < (x0.Deparser.length : Int)))) || (decide (60 < (na x0.Control 10)))) then
  true
 else
 lj x0 (fun (_ : Unit) =>
  lh x0 (fun (_ : Unit) =>
   lq x0 (fun (_ : Unit) =>
    ll x0 (fun (_ : Unit) =>
     false) (Int.toNat ((x0.States.length : Int) - 0)) 0) (Int.toNat ((x0.Tables.length : Int) - 0)) 0) (Int.toNat ((x0.Actions.length : Int) - 0)) 0) (Int.toNat ((x0.Headers.length : Int) - 0)) 0
def jb (x0 : cb) (K0 : Unit → Bool) : Nat → Int → Bool
 | 0, x3_ => K0 ()
 | m + 1, x3_ =>
   if ((decide (20 < ((((ix x0.Rows x3_).Entry).Keys).length : Int))) || (decide (20 < (((((ix x0.Rows x3_).Entry).Call).Args).length : Int)))) then
    true
   else
   jb x0 K0 m (x3_ + 1)
def jy (x0 : cb) : Bool :=
 LET (lv x0.Program) fun y102 =>
 if ((y102 || (decide (30 < (x0.Rows.length : Int)))) || (decide (20 < (x0.Key.length : Int)))) then
  true
 else
 jb x0 (fun (_ : Unit) =>
  false) (Int.toNat ((x0.Rows.length : Int) - 0)) 0
def au5 : Bool := true
def ib (x0 : au) (x1 : List (BitVec 32)) (K0 : Unit → Bool) : Nat → Int → Bool
 | 0, x16_ => K0 ()
 | m + 1, x16_ =>
   if (!decide ((((ix x1 x16_) ^^^ ((ix x0.Keys x16_).Value)) &&& ((ix x0.Keys x16_).Mask)) = 0#32)) then
    false
   else
   ib x0 x1 K0 m (x16_ + 1)
def cm (x0 : au) (x1 : List (BitVec 32)) : Bool :=
 if (!decide ((x1.length : Int) = (x0.Keys.length : Int))) then
  false
 else
 ib x0 x1 (fun (_ : Unit) =>
  true) (Int.toNat ((x0.Keys.length : Int) - 0)) 0
def ee (x0 : List am) (x1 : am → Bool) (K0 : am → (am × Bool)) : Nat → Int → am → (am × Bool)
 | 0, x11_, zE102 => K0 zE102
 | m + 1, x11_, zE102 =>
   if (x1 (ix x0 x11_)) then
    ((ix x0 x11_), true)
   else
   ee x0 x1 K0 m (x11_ + 1) zE102
def cp (x0 : List am) (x1 : am → Bool) : am × Bool :=
 ee x0 x1 (fun (zE102_112 : am) =>
  (({ ID := 0, Entry := ({ Keys := ([] : List ay), Priority := 0, Call := ({ Action := 0, Args := ([] : List (BitVec 32)) } : av) } : au) } : am), false)) (Int.toNat ((x0.length : Int) - 0)) 0 ({ ID := 0, Entry := ({ Keys := ([] : List ay), Priority := 0, Call := ({ Action := 0, Args := ([] : List (BitVec 32)) } : av) } : au) } : am)
def ie (x0 : BitVec 32) (K0 : Int → Int) : Nat → Int → Int → Int
 | 0, x3_, x5_ => K0 x3_
 | m + 1, x3_, x5_ =>
   ie x0 K0 m (wr (x3_ + (((x0 >>> x5_.toNat) &&& 1#32).toNat : Int))) (x5_ + 1)
def iv (x0 : BitVec 32) : Int :=
 ie x0 (fun (x3_103 : Int) =>
  x3_103) (Int.toNat (32 - 0)) 0 0
def fg (x0 : aa) (x1 : Int) (x2 : au) (K0 : Unit → Int) : Nat → Int → Int
 | 0, x25_ => K0 ()
 | m + 1, x25_ =>
   if (decide (((ix ((ix x0.Tables x1).Keys) x25_).Kind) = 2)) then
    if (decide (x25_ < (x2.Keys.length : Int))) then
     LET (iv ((ix x2.Keys x25_).Mask)) fun y118 =>
     y118
    else
    0
   else
   fg x0 x1 x2 K0 m (x25_ + 1)
def fi (x0 : aa) (x1 : Int) (x2 : au) : Int :=
 if ((decide (x1 < 0)) || (decide ((x0.Tables.length : Int) ≤ x1))) then
  0
 else
 fg x0 x1 x2 (fun (_ : Unit) =>
  0) (Int.toNat ((((ix x0.Tables x1).Keys).length : Int) - 0)) 0
def de (x0 : aa) (x1 : Int) (x2 : am) (x3 : am) : Bool :=
 if (!decide (x2.Entry.Priority = x3.Entry.Priority)) then
  (decide (x3.Entry.Priority < x2.Entry.Priority))
 else
 LET (fi x0 x1 x2.Entry) fun y107 =>
 LET (fi x0 x1 x3.Entry) fun y109 =>
 if (!decide (y107 = y109)) then
  (decide (y109 < y107))
 else
 (decide (x2.ID < x3.ID))
def iw (x0 : aa) (x1 : Int) (x2 : List am) (x3 : List (BitVec 32)) : am × Bool :=
 if decide (x1 < 0) || decide ((x0.Tables.length : Int) ≤ x1) then (({ ID := 0, Entry := ({ Keys := ([] : List ay), Priority := 0, Call := ({ Action := 0, Args := ([] : List (BitVec 32)) } : av) } : au) } : am), false)
 else cp x2 (fun r => cm r.Entry x3 && !(cp x2 (fun x => cm x.Entry x3 && de x0 x1 x r)).2)
def jn (x0 : au) (x1 : List (BitVec 32)) (K0 : Unit → Bool) : Nat → Int → Bool
 | 0, x5_ => K0 ()
 | m + 1, x5_ =>
   if (!decide ((((ix x1 x5_) ^^^ ((ix x0.Keys x5_).Value)) &&& ((ix x0.Keys x5_).Mask)) = 0#32)) then
    false
   else
   jn x0 x1 K0 m (x5_ + 1)
def nr (x0 : au) (x1 : List (BitVec 32)) : Bool :=
 if (!decide ((x0.Keys.length : Int) = (x1.length : Int))) then
  false
 else
 jn x0 x1 (fun (_ : Unit) =>
  true) (Int.toNat ((x1.length : Int) - 0)) 0
def ip (K0 : Int → Int) : Nat → (BitVec 32) → Int → Int → Int
 | 0, x0_, x3_, x4_ => K0 x3_
 | m + 1, x0_, x3_, x4_ =>
   ip K0 m (x0_ / 2#32) (wr (x3_ + ((x0_ % 2#32).toNat : Int))) (x4_ + 1)
def mm (x0 : BitVec 32) : Int :=
 ip (fun (x3_103 : Int) =>
  x3_103) (Int.toNat (32 - 0)) x0 0 0
def ik (x0 : aa) (x1 : Int) (x2 : au) (K0 : Unit → Int) : Nat → Int → Int
 | 0, x7_ => K0 ()
 | m + 1, x7_ =>
   if (decide (((ix ((ix x0.Tables x1).Keys) x7_).Kind) = 2)) then
    if (decide ((x2.Keys.length : Int) ≤ x7_)) then
     0
    else
    LET (mm ((ix x2.Keys x7_).Mask)) fun y121 =>
    y121
   else
   ik x0 x1 x2 K0 m (x7_ + 1)
def ko (x0 : aa) (x1 : Int) (x2 : au) : Int :=
 if ((decide (x1 < 0)) || (decide ((x0.Tables.length : Int) ≤ x1))) then
  0
 else
 ik x0 x1 x2 (fun (_ : Unit) =>
  0) (Int.toNat ((((ix x0.Tables x1).Keys).length : Int) - 0)) 0
def jt (x0 : aa) (x1 : Int) (x2 : am) (x3 : am) : Bool :=
 LET (ko x0 x1 x2.Entry) fun y102 =>
 LET (ko x0 x1 x3.Entry) fun y104 =>
 if (!decide (x2.Entry.Priority = x3.Entry.Priority)) then
  (decide (x3.Entry.Priority < x2.Entry.Priority))
 else
 if (!decide (y102 = y104)) then
  (decide (y104 < y102))
 else
 (decide (x2.ID < x3.ID))
def jr (x0 : aa) (x1 : Int) (x2 : List am) (x3 : List (BitVec 32)) (K0 : Bool → am → (am × Bool)) : Nat → Bool → Int → am → (am × Bool)
 | 0, x11_, x12_, zE104 => K0 x11_ zE104
 | m + 1, x11_, x12_, zE104 =>
   if (((decide (x12_ < (x2.length : Int))) && (decide (0 ≤ x1))) && (decide (x1 < (x0.Tables.length : Int)))) then
    LET (nr ((ix x2 x12_).Entry) x3) fun y117 =>
    if (y117 && ((!x11_) || (jt x0 x1 (ix x2 x12_) zE104))) then
     jr x0 x1 x2 x3 K0 m true (x12_ + 1) (ix x2 x12_)
    else
    jr x0 x1 x2 x3 K0 m x11_ (x12_ + 1) zE104
   else
   K0 x11_ zE104
def kb (x0 : aa) (x1 : Int) (x2 : List am) (x3 : List (BitVec 32)) : am × Bool :=
 jr x0 x1 x2 x3 (fun (x11_125 : Bool) (zE104_125 : am) =>
  (zE104_125, x11_125)) (Int.toNat ((x2.length : Int) - 0)) false 0 ({ ID := 0, Entry := ({ Keys := ([] : List ay), Priority := 0, Call := ({ Action := 0, Args := ([] : List (BitVec 32)) } : av) } : au) } : am)
def fu (x0 : au) (x1 : au) (K0 : Unit → Bool) : Nat → Int → Bool
 | 0, x5_ => K0 ()
 | m + 1, x5_ =>
   if (!decide ((ix x0.Keys x5_) = (ix x1.Keys x5_))) then
    false
   else
   fu x0 x1 K0 m (x5_ + 1)
def gx (x0 : au) (x1 : au) : Bool :=
 if ((!decide ((x0.Keys.length : Int) = (x1.Keys.length : Int))) || (!decide (x0.Priority = x1.Priority))) then
  false
 else
 fu x0 x1 (fun (_ : Unit) =>
  true) (Int.toNat ((x0.Keys.length : Int) - 0)) 0
def ij (x0 : av) (x1 : av) (K0 : Unit → Bool) : Nat → Int → Bool
 | 0, x5_ => K0 ()
 | m + 1, x5_ =>
   if (!decide ((ix x0.Args x5_) = (ix x1.Args x5_))) then
    false
   else
   ij x0 x1 K0 m (x5_ + 1)
def ma (x0 : av) (x1 : av) : Bool :=
 if ((!decide (x0.Action = x1.Action)) || (!decide ((x0.Args.length : Int) = (x1.Args.length : Int)))) then
  false
 else
 ij x0 x1 (fun (_ : Unit) =>
  true) (Int.toNat ((x0.Args.length : Int) - 0)) 0
def pu (x0 : au) (x1 : au) : Bool :=
 LET (gx x0 x1) fun y101 =>
 (y101 && (ma x0.Call x1.Call))
def qv (x0 : am) (x1 : am) : Bool :=
 ((decide (x0.ID = x1.ID)) && (pu x0.Entry x1.Entry))
def lm (x0 : UInt8) : Bool :=
 (((decide ((97 : UInt8) ≤ x0)) && (decide (x0 ≤ (122 : UInt8)))) || ((decide ((65 : UInt8) ≤ x0)) && (decide (x0 ≤ (90 : UInt8)))))
def nk (x0 : UInt8) : Bool :=
 ((decide ((48 : UInt8) ≤ x0)) && (decide (x0 ≤ (57 : UInt8))))
def gg (x0 : List UInt8) (K0 : Unit → Bool) : Nat → Int → Bool
 | 0, x3_ => K0 ()
 | m + 1, x3_ =>
   LET (lm (ix x0 x3_)) fun y107 =>
   if (((!y107) && (!(nk (ix x0 x3_)))) && (!decide ((ix x0 x3_) = (95 : UInt8)))) then
    false
   else
   gg x0 K0 m (x3_ + 1)
def kt (x0 : List UInt8) : Bool :=
 if (((decide (x0 = ([] : List UInt8))) || (decide (16 < (x0.length : Int)))) || (!(lm (ix x0 0)))) then
  false
 else
 gg x0 (fun (_ : Unit) =>
  true) (Int.toNat ((x0.length : Int) - 0)) 0
def ka (x0 : aa) (x1 : cd) : Int :=
 LET (fun (x5_108 : List bw) =>
  if (((((decide (x1.Header < (-1))) || (decide (x1.Field < 0))) || (decide ((x5_108.length : Int) ≤ x1.Field))) || (decide (((ix x5_108 x1.Field).Width) < 1))) || (decide (32 < ((ix x5_108 x1.Field).Width)))) then
   0
  else
  (ix x5_108 x1.Field).Width) fun k108 =>
 if (decide (0 ≤ x1.Header)) then
  if (decide ((x0.Headers.length : Int) ≤ x1.Header)) then
   0
  else
  k108 ((ix x0.Headers x1.Header).Fields)
 else
 k108 x0.Metadata
def gy (x0 : aa) (x1 : ax) (K0 : Int → Int → (Int × Int)) : Nat → Int → Int → Int → (Int × Int)
 | 0, x6_, x7_, x8_ => K0 x6_ x7_
 | m + 1, x6_, x7_, x8_ =>
   LET (ka x0 ((ix x1.Keys x8_).Field)) fun y108 =>
   if (decide (y108 = 0)) then
    (x8_, 8)
   else
   if (((!decide (((ix x1.Keys x8_).Kind) = 1)) && (!decide (((ix x1.Keys x8_).Kind) = 2))) && (!decide (((ix x1.Keys x8_).Kind) = 3))) then
    (x8_, 11)
   else
   if (decide (((ix x1.Keys x8_).Kind) = 2)) then
    gy x0 x1 K0 m (wr (x6_ + y108)) (wr (x7_ + 1)) (x8_ + 1)
   else
   gy x0 x1 K0 m (wr (x6_ + y108)) x7_ (x8_ + 1)
def nh (x0 : aa) (x1 : ax) : Int × Int :=
 gy x0 x1 (fun (x6_116 : Int) (x7_116 : Int) =>
  if (decide (1 < x7_116)) then
   ((-2), 7)
  else
  if (decide (64 < x6_116)) then
   ((-2), 10)
  else
  (0, 0)) (Int.toNat ((x1.Keys.length : Int) - 0)) 0 0 0
def gm (x0 : List Int) (x1 : Int) (K0 : Unit → Int) : Nat → Int → Int
 | 0, x5_ => K0 ()
 | m + 1, x5_ =>
   if (decide ((ix x0 x5_) = x1)) then
    x5_
   else
   gm x0 x1 K0 m (x5_ + 1)
def fy (x0 : List Int) (x1 : Int) : Int :=
 gm x0 x1 (fun (_ : Unit) =>
  (-1)) (Int.toNat ((x0.length : Int) - 0)) 0
def fh (x0 : Int) : Bool :=
 ((decide (1 ≤ x0)) && (decide (x0 ≤ 32)))
def nd (K0 : (BitVec 64) → (BitVec 64)) : Nat → (BitVec 64) → Int → (BitVec 64)
 | 0, x3_, x4_ => K0 x3_
 | m + 1, x3_, x4_ =>
   nd K0 m (2#64 * x3_) (x4_ + 1)
def ki (x0 : Int) : (BitVec 64) :=
 nd (fun (x3_103 : BitVec 64) =>
  x3_103) (Int.toNat (x0 - 0)) 1#64 0
def kw (x0 : BitVec 32) (x1 : Int) : Bool :=
 LET (fh x1) fun y101 =>
 (y101 && (decide ((BitVec.setWidth 64 x0) < (ki x1))))
def io (x0 : aa) (x1 : av) (K0 : Unit → Int) : Nat → Int → Int
 | 0, x6_ => K0 ()
 | m + 1, x6_ =>
   LET (kw (ix x1.Args x6_) ((ix ((ix x0.Actions x1.Action).Params) x6_).Width)) fun y113 =>
   if (!y113) then
    9
   else
   io x0 x1 K0 m (x6_ + 1)
def lf (x0 : aa) (x1 : av) : Int :=
 if ((decide (x1.Action < 0)) || (decide ((x0.Actions.length : Int) ≤ x1.Action))) then
  8
 else
 if (!decide ((x1.Args.length : Int) = (((ix x0.Actions x1.Action).Params).length : Int))) then
  2
 else
 io x0 x1 (fun (_ : Unit) =>
  0) (Int.toNat ((((ix x0.Actions x1.Action).Params).length : Int) - 0)) 0
def ir (x0 : aa) (x1 : ax) (K0 : Unit → Int) : Nat → Int → Int
 | 0, x5_ => K0 ()
 | m + 1, x5_ =>
   if ((decide ((ix x1.Actions x5_) < 0)) || (decide ((x0.Actions.length : Int) ≤ (ix x1.Actions x5_)))) then
    8
   else
   LET (fy x1.Actions (ix x1.Actions x5_)) fun y112 =>
   if (decide (y112 < x5_)) then
    7
   else
   ir x0 x1 K0 m (x5_ + 1)
def nt (x0 : aa) (x1 : ax) : Int :=
 ir x0 x1 (fun (_ : Unit) =>
  LET (fy x1.Actions x1.Default.Action) fun y117 =>
  if (decide (y117 < 0)) then
   8
  else
  LET (lf x0 x1.Default) fun y120 =>
  y120) (Int.toNat ((x1.Actions.length : Int) - 0)) 0
def ep (x0 : aa) (x1 : Int) : Int × Int :=
 if ((decide (x1 < 0)) || (decide ((x0.Tables.length : Int) ≤ x1))) then
  ((-1), 8)
 else
 LET (kt ((ix x0.Tables x1).Name)) fun y109 =>
 if (!y109) then
  ((-1), 6)
 else
 if ((decide (6 < (((ix x0.Tables x1).Keys).length : Int))) || (decide (16 < (((ix x0.Tables x1).Actions).length : Int)))) then
  ((-1), 12)
 else
 if ((decide (((ix x0.Tables x1).Size) < 1)) || (decide (256 < ((ix x0.Tables x1).Size)))) then
  ((-1), 9)
 else
 LET (nh x0 (ix x0.Tables x1)) fun y117 =>
 if (!decide (y117.2 = 0)) then
  (y117.1, y117.2)
 else
 LET (nt x0 (ix x0.Tables x1)) fun y119 =>
 if (!decide (y119 = 0)) then
  ((-3), y119)
 else
 (0, 0)
def fb (x0 : aa) (x1 : Int) : Bool :=
 LET (ep x0 x1) fun y101 =>
 (decide (y101.2 = 0))
def jh (x0 : aa) (x1 : Int) (K0 : (List Int) → (List Int)) : Nat → Int → (List Int) → (List Int)
 | 0, x6_, zE104 => K0 zE104
 | m + 1, x6_, zE104 =>
   LET (ka x0 ((ix ((ix x0.Tables x1).Keys) x6_).Field)) fun y118 =>
   jh x0 x1 K0 m (x6_ + 1) (zE104 ++ ([y118] : List Int))
def cx (x0 : aa) (x1 : Int) : (List Int) :=
 LET (fb x0 x1) fun y101 =>
 if (!y101) then
  ([] : List Int)
 else
 jh x0 x1 (fun (zE104_121 : List Int) =>
  zE104_121) (Int.toNat ((((ix x0.Tables x1).Keys).length : Int) - 0)) 0 ([] : List Int)
def lw (x0 : Int) (x1 : Int) : (BitVec 32) :=
 LET (fh x1) fun y101 =>
 if (!y101) then
  0#32
 else
 LET (ki x1) fun y103 =>
 LET (ki (wr (x1 - (min (max x0 0) x1)))) fun y104 =>
 (BitVec.setWidth 32 (y103 - y104))
def gn (x0 : BitVec 32) (x1 : Int) (K0 : Unit → (Int × Bool)) : Nat → Int → (Int × Bool)
 | 0, x6_ => K0 ()
 | m + 1, x6_ =>
   if ((decide (x6_ ≤ x1)) && (fh x1)) then
    LET (lw x6_ x1) fun y107 =>
    if (decide (y107 = x0)) then
     (x6_, true)
    else
    gn x0 x1 K0 m (x6_ + 1)
   else
   K0 ()
def ji (x0 : BitVec 32) (x1 : Int) : Int × Bool :=
 gn x0 x1 (fun (_ : Unit) =>
  (0, false)) (Int.toNat ((x1 + 1) - 0)) 0
def je (x0 : Int) : (BitVec 32) :=
 LET (fh x0) fun y101 =>
 if (!y101) then
  0#32
 else
 LET (ki x0) fun y103 =>
 (BitVec.setWidth 32 (y103 - 1#64))
def ja (x0 : ay) (x1 : Int) (x2 : Int) : Int :=
 LET (ji x0.Mask x1) fun y101 =>
 LET (kw x0.Value x1) fun y102 =>
 if ((!y102) || (!(kw x0.Mask x1))) then
  9
 else
 if (!decide ((x0.Value &&& x0.Mask) = x0.Value)) then
  5
 else
 if (((decide (x2 = 1)) && (!decide (x0.Mask = (je x1)))) || ((decide (x2 = 2)) && (!y101.2))) then
  11
 else
 0
def fj (x0 : aa) (x1 : Int) (K0 : Int → Int) : Nat → Int → Int → Int
 | 0, x5_, x6_ => K0 x5_
 | m + 1, x5_, x6_ =>
   fj x0 x1 K0 m (max x5_ ((ix ((ix x0.Tables x1).Keys) x6_).Kind)) (x6_ + 1)
def ky (x0 : aa) (x1 : Int) : Int :=
 LET (fb x0 x1) fun y101 =>
 if (!y101) then
  0
 else
 fj x0 x1 (fun (x5_115 : Int) =>
  x5_115) (Int.toNat ((((ix x0.Tables x1).Keys).length : Int) - 0)) 1 0
def oo (x0 : aa) (x1 : Int) (x2 : Int) : Bool :=
 LET (fb x0 x1) fun y101 =>
 (y101 && (decide (0 ≤ (fy ((ix x0.Tables x1).Actions) x2))))
def jd (x0 : aa) (x1 : Int) (x2 : au) (y103 : (List Int)) (K0 : Unit → Int) : Nat → Int → Int
 | 0, x10_ => K0 ()
 | m + 1, x10_ =>
   LET (ja (ix x2.Keys x10_) (ix y103 x10_) ((ix ((ix x0.Tables x1).Keys) x10_).Kind)) fun y115 =>
   if (!decide (y115 = 0)) then
    y115
   else
   jd x0 x1 x2 y103 K0 m (x10_ + 1)
def jv (x0 : aa) (x1 : Int) (x2 : au) : Int :=
 LET (ep x0 x1) fun y101 =>
 if (!decide (y101.2 = 0)) then
  y101.2
 else
 LET (cx x0 x1) fun y103 =>
 if (!decide ((x2.Keys.length : Int) = (y103.length : Int))) then
  2
 else
 jd x0 x1 x2 y103 (fun (_ : Unit) =>
  if ((decide (x2.Priority < 0)) || (decide (255 < x2.Priority))) then
   9
  else
  if ((decide (0 < x2.Priority)) && (!decide ((ky x0 x1) = 3))) then
   11
  else
  LET (oo x0 x1 x2.Call.Action) fun y124 =>
  if (!y124) then
   8
  else
  LET (lf x0 x2.Call) fun y127 =>
  y127) (Int.toNat ((y103.length : Int) - 0)) 0
def jz (x2 : List am) (x9_ : Int) (K2 : Unit → Int) : Nat → Int → Int
 | 0, x10_ => K2 ()
 | m + 1, x10_ =>
   if ((decide (((ix x2 x10_).ID) = ((ix x2 x9_).ID))) || (gx ((ix x2 x10_).Entry) ((ix x2 x9_).Entry))) then
    7
   else
   jz x2 x9_ K2 m (x10_ + 1)
def gw (x0 : aa) (x1 : Int) (x2 : List am) (K0 : Unit → Int) : Nat → Int → Int
 | 0, x9_ => K0 ()
 | m + 1, x9_ =>
   LET (jv x0 x1 ((ix x2 x9_).Entry)) fun y107 =>
   if (!decide (y107 = 0)) then
    y107
   else
   jz x2 x9_ (fun (_ : Unit) =>
    gw x0 x1 x2 K0 m (x9_ + 1)) (Int.toNat (x9_ - 0)) 0
def mz (x0 : aa) (x1 : Int) (x2 : List am) : Int :=
 LET (ep x0 x1) fun y101 =>
 if (!decide (y101.2 = 0)) then
  y101.2
 else
 gw x0 x1 x2 (fun (_ : Unit) =>
  0) (Int.toNat ((x2.length : Int) - 0)) 0
def jx (x0 : UInt8) : Bool :=
 (((decide ((97 : UInt8) ≤ x0)) && (decide (x0 ≤ (122 : UInt8)))) || ((decide ((65 : UInt8) ≤ x0)) && (decide (x0 ≤ (90 : UInt8)))))
def kf (x0 : List UInt8) (x1 : UInt8 → Bool) (K0 : Int → Int) : Nat → Int → Int
 | 0, x5_ => K0 x5_
 | m + 1, x5_ =>
   if ((decide (x5_ < (x0.length : Int))) && (x1 (ix x0 x5_))) then
    kf x0 x1 K0 m (x5_ + 1)
   else
   K0 x5_
def pz (x0 : List UInt8) (x1 : UInt8 → Bool) : Int :=
 kf x0 x1 (fun (x5_107 : Int) =>
  x5_107) (Int.toNat ((x0.length : Int) - 0)) 0
def kj (x0 : UInt8) : Bool :=
 ((decide ((48 : UInt8) ≤ x0)) && (decide (x0 ≤ (57 : UInt8))))
def iq (x0 : UInt8) : Bool :=
 LET (jx x0) fun y101 =>
 ((y101 || (kj x0)) || (decide (x0 = (95 : UInt8))))
def lb (x0 : List UInt8) : Bool :=
 if (((decide ((x0.length : Int) = 0)) || (decide (16 < (x0.length : Int)))) || (!(jx (ix x0 0)))) then
  false
 else
 LET (pz x0 iq) fun y105 =>
 (decide (y105 = (x0.length : Int)))
def gh (x0 : List cg) (x1 : Int) : cg :=
 if ((decide (x1 < 0)) || (decide ((x0.length : Int) ≤ x1))) then
  ({ Name := ([] : List UInt8), Fields := ([] : List bw) } : cg)
 else
 (ix x0 x1)
def th (x0 : aa) (x1 : Int) : (List bw) :=
 if (decide (x1 = (-1))) then
  x0.Metadata
 else
 LET (gh x0.Headers x1) fun y104 =>
 y104.Fields
def kp (x0 : List bw) (x1 : Int) : bw :=
 if ((decide (x1 < 0)) || (decide ((x0.length : Int) ≤ x1))) then
  ({ Name := ([] : List UInt8), Width := 0 } : bw)
 else
 (ix x0 x1)
def ke (x0 : List Int) (K0 : Unit → Bool) : Nat → Int → Bool
 | 0, x7_ => K0 ()
 | m + 1, x7_ =>
   if ((decide ((ix x0 x7_) < 1)) || (decide (32 < (ix x0 x7_)))) then
    false
   else
   ke x0 K0 m (x7_ + 1)
def gz (x0 : List Int) : Bool :=
 ke x0 (fun (_ : Unit) =>
  true) (Int.toNat ((x0.length : Int) - 0)) 0
def dl (x0 : Int) : (BitVec 32) :=
 LET (gz ([x0] : List Int)) fun y102 =>
 if (!y102) then
  0#32
 else
 (4294967295#32 >>> (wr (32 - x0)).toNat)
def oe (x0 : aa) (x1 : cd) : Int :=
 LET (th x0 x1.Header) fun y101 =>
 LET (kp y101 x1.Field) fun y103 =>
 LET (dl y103.Width) fun y105 =>
 if (decide (y105 = 0#32)) then
  0
 else
 y103.Width
def gu (x0 : aa) (x1 : ax) (K0 : Int → Int → (Int × Int)) : Nat → Int → Int → Int → (Int × Int)
 | 0, x6_, x7_, x14_ => K0 x6_ x7_
 | m + 1, x6_, x7_, x14_ =>
   LET (oe x0 ((ix x1.Keys x14_).Field)) fun y109 =>
   if (decide (y109 = 0)) then
    (x14_, 8)
   else
   if (decide (((ix x1.Keys x14_).Kind) = 2)) then
    gu x0 x1 K0 m (wr (x6_ + 1)) (wr (x7_ + y109)) (x14_ + 1)
   else
   LET (fun (x33_113 : Bool) =>
    if x33_113 then
     gu x0 x1 K0 m x6_ (wr (x7_ + y109)) (x14_ + 1)
    else
    (x14_, 11)) fun k113 =>
   if (decide (((ix x1.Keys x14_).Kind) = 1)) then
    k113 (decide (((ix x1.Keys x14_).Kind) = 1))
   else
   k113 (decide (((ix x1.Keys x14_).Kind) = 3))
def lg (x0 : aa) (x1 : ax) : Int × Int :=
 gu x0 x1 (fun (x6_116 : Int) (x7_116 : Int) =>
  if (decide (1 < x6_116)) then
   ((-2), 7)
  else
  if (decide (64 < x7_116)) then
   ((-2), 10)
  else
  (0, 0)) (Int.toNat ((x1.Keys.length : Int) - 0)) 0 0 0
def gj (x0 : BitVec 32) (x1 : Int) : Bool :=
 LET (gz ([x1] : List Int)) fun y102 =>
 (y102 && (decide (x0 ≤ (dl x1))))
def ii (x0 : aa) (x1 : av) (K0 : Unit → Int) : Nat → Int → Int
 | 0, x35_ => K0 ()
 | m + 1, x35_ =>
   LET (gj (ix x1.Args x35_) ((ix ((ix x0.Actions x1.Action).Params) x35_).Width)) fun y113 =>
   if (!y113) then
    9
   else
   ii x0 x1 K0 m (x35_ + 1)
def kn (x0 : aa) (x1 : av) : Int :=
 if ((decide (x1.Action < 0)) || (decide ((x0.Actions.length : Int) ≤ x1.Action))) then
  8
 else
 if (!decide ((x1.Args.length : Int) = (((ix x0.Actions x1.Action).Params).length : Int))) then
  2
 else
 ii x0 x1 (fun (_ : Unit) =>
  0) (Int.toNat ((x1.Args.length : Int) - 0)) 0
def fq (x0 : aa) (x1 : ax) (K0 : (List (Int × Bool)) → Int) : Nat → Int → (List (Int × Bool)) → Int
 | 0, x12_, zE102 => K0 zE102
 | m + 1, x12_, zE102 =>
   if ((decide ((ix x1.Actions x12_) < 0)) || (decide ((x0.Actions.length : Int) ≤ (ix x1.Actions x12_)))) then
    8
   else
   if ((mget zE102 (ix x1.Actions x12_)).getD false) then
    7
   else
   fq x0 x1 K0 m (x12_ + 1) (mput zE102 (ix x1.Actions x12_) true)
def ku (x0 : aa) (x1 : ax) : Int :=
 fq x0 x1 (fun (zE102_112 : List (Int × Bool)) =>
  if (!((mget zE102_112 x1.Default.Action).getD false)) then
   8
  else
  LET (kn x0 x1.Default) fun y117 =>
  y117) (Int.toNat ((x1.Actions.length : Int) - 0)) 0 ([] : List (Int × Bool))
def gc (x0 : aa) (x1 : Int) : Int × Int :=
 if ((decide (x1 < 0)) || (decide ((x0.Tables.length : Int) ≤ x1))) then
  ((-1), 8)
 else
 LET (lb ((ix x0.Tables x1).Name)) fun y109 =>
 if (!y109) then
  ((-1), 6)
 else
 if ((decide (6 < (((ix x0.Tables x1).Keys).length : Int))) || (decide (16 < (((ix x0.Tables x1).Actions).length : Int)))) then
  ((-1), 12)
 else
 if ((decide (((ix x0.Tables x1).Size) < 1)) || (decide (256 < ((ix x0.Tables x1).Size)))) then
  ((-1), 9)
 else
 LET (lg x0 (ix x0.Tables x1)) fun y117 =>
 if (!decide (y117.2 = 0)) then
  (y117.1, y117.2)
 else
 LET (ku x0 (ix x0.Tables x1)) fun y119 =>
 if (!decide (y119 = 0)) then
  ((-3), y119)
 else
 (0, 0)
def fm (x0 : aa) (x1 : Int) : Bool :=
 LET (gc x0 x1) fun y101 =>
 (decide (y101.2 = 0))
def jk (x0 : aa) (x1 : Int) (K0 : (List Int) → (List Int)) : Nat → Int → (List Int) → (List Int)
 | 0, x19_, zE107 => K0 zE107
 | m + 1, x19_, zE107 =>
   LET (oe x0 ((ix ((ix x0.Tables x1).Keys) x19_).Field)) fun y115 =>
   jk x0 x1 K0 m (x19_ + 1) (zE107 ++ ([y115] : List Int))
def dj (x0 : aa) (x1 : Int) : (List Int) :=
 LET (fm x0 x1) fun y101 =>
 if (!y101) then
  ([] : List Int)
 else
 jk x0 x1 (fun (zE107_118 : List Int) =>
  zE107_118) (Int.toNat ((((ix x0.Tables x1).Keys).length : Int) - 0)) 0 ([] : List Int)
def fd (x0 : Int) (x1 : Int) : (BitVec 32) :=
 LET (gz ([x1] : List Int)) fun y102 =>
 if (!y102) then
  0#32
 else
 LET (dl x1) fun y104 =>
 LET (dl x1) fun y105 =>
 (y104 &&& ~~~(y105 >>> (min (max x0 0) x1).toNat))
def eb (x0 : BitVec 32) (x1 : Int) (K0 : Unit → (Int × Bool)) : Nat → Int → (Int × Bool)
 | 0, x13_ => K0 ()
 | m + 1, x13_ =>
   LET (fd x13_ x1) fun y106 =>
   if (decide (y106 = x0)) then
    (x13_, true)
   else
   eb x0 x1 K0 m (x13_ + 1)
def dh (x0 : BitVec 32) (x1 : Int) : Int × Bool :=
 LET (gz ([x1] : List Int)) fun y102 =>
 if (!y102) then
  (0, false)
 else
 eb x0 x1 (fun (_ : Unit) =>
  (0, false)) (Int.toNat ((wr (x1 + 1)) - 0)) 0
def nb (x0 : ay) (x1 : Int) (x2 : Int) : Int :=
 LET (gj x0.Value x2) fun y101 =>
 if ((!y101) || (!(gj x0.Mask x2))) then
  9
 else
 if (!decide ((x0.Value &&& ~~~x0.Mask) = 0#32)) then
  5
 else
 if ((decide (x1 = 1)) && (!decide (x0.Mask = (dl x2)))) then
  11
 else
 LET (fun (_ : Unit) =>
  0) fun k112 =>
 if (decide (x1 = 2)) then
  LET (dh x0.Mask x2) fun y114 =>
  if (!y114.2) then
   11
  else
  k112 ()
 else
 k112 ()
def kh (x0 : aa) (x1 : Int) (K0 : Int → Int) : Nat → Int → Int → Int
 | 0, x5_, x19_ => K0 x5_
 | m + 1, x5_, x19_ =>
   if (decide (((ix ((ix x0.Tables x1).Keys) x19_).Kind) = 3)) then
    3
   else
   if (decide (((ix ((ix x0.Tables x1).Keys) x19_).Kind) = 2)) then
    kh x0 x1 K0 m 2 (x19_ + 1)
   else
   kh x0 x1 K0 m x5_ (x19_ + 1)
def en (x0 : aa) (x1 : Int) : Int :=
 LET (fm x0 x1) fun y101 =>
 if (!y101) then
  0
 else
 kh x0 x1 (fun (x5_114 : Int) =>
  x5_114) (Int.toNat ((((ix x0.Tables x1).Keys).length : Int) - 0)) 1 0
def jl (x0 : aa) (x1 : Int) (x2 : Int) (K0 : Unit → Bool) : Nat → Int → Bool
 | 0, x20_ => K0 ()
 | m + 1, x20_ =>
   if (decide ((ix ((ix x0.Tables x1).Actions) x20_) = x2)) then
    true
   else
   jl x0 x1 x2 K0 m (x20_ + 1)
def nm (x0 : aa) (x1 : Int) (x2 : Int) : Bool :=
 LET (fm x0 x1) fun y101 =>
 if (!y101) then
  false
 else
 jl x0 x1 x2 (fun (_ : Unit) =>
  false) (Int.toNat ((((ix x0.Tables x1).Actions).length : Int) - 0)) 0
def lc (x0 : aa) (x1 : Int) (x2 : au) (y106 : (List Int)) (K0 : Unit → Int) : Nat → Int → Int
 | 0, x41_ => K0 ()
 | m + 1, x41_ =>
   LET (nb (ix x2.Keys x41_) ((ix ((ix x0.Tables x1).Keys) x41_).Kind) (ix y106 x41_)) fun y118 =>
   if (!decide (y118 = 0)) then
    y118
   else
   lc x0 x1 x2 y106 K0 m (x41_ + 1)
def li (x0 : aa) (x1 : Int) (x2 : au) : Int :=
 LET (gc x0 x1) fun y101 =>
 if (!decide (y101.2 = 0)) then
  y101.2
 else
 LET (dj x0 x1) fun y106 =>
 if (!decide ((x2.Keys.length : Int) = (((ix x0.Tables x1).Keys).length : Int))) then
  2
 else
 lc x0 x1 x2 y106 (fun (_ : Unit) =>
  if ((decide (x2.Priority < 0)) || (decide (255 < x2.Priority))) then
   9
  else
  if ((!decide (x2.Priority = 0)) && (!decide ((en x0 x1) = 3))) then
   11
  else
  LET (nm x0 x1 x2.Call.Action) fun y127 =>
  if (!y127) then
   8
  else
  LET (kn x0 x2.Call) fun y130 =>
  y130) (Int.toNat ((x2.Keys.length : Int) - 0)) 0
def jp (x0 : au) (x1 : au) (K0 : Unit → Bool) : Nat → Int → Bool
 | 0, x24_ => K0 ()
 | m + 1, x24_ =>
   if (!decide ((ix x0.Keys x24_) = (ix x1.Keys x24_))) then
    false
   else
   jp x0 x1 K0 m (x24_ + 1)
def il (x0 : au) (x1 : au) : Bool :=
 if ((!decide (x0.Priority = x1.Priority)) || (!decide ((x0.Keys.length : Int) = (x1.Keys.length : Int)))) then
  false
 else
 jp x0 x1 (fun (_ : Unit) =>
  true) (Int.toNat ((x0.Keys.length : Int) - 0)) 0
def bp (x0 : List bm) (x1 : bm → Bool) (K0 : Unit → Int) : Nat → Int → Int
 | 0, x8_ => K0 ()
 | m + 1, x8_ =>
   if (x1 (ix x0 x8_)) then
    x8_
   else
   bp x0 x1 K0 m (x8_ + 1)
def fx (x0 : List bm) (x1 : bm → Bool) : Int :=
 bp x0 x1 (fun (_ : Unit) =>
  (-1)) (Int.toNat ((x0.length : Int) - 0)) 0
def iu (x0 : au) (K0 : (List (BitVec 32)) → (List (BitVec 32))) : Nat → Int → (List (BitVec 32)) → (List (BitVec 32))
 | 0, x9_, zE103 => K0 zE103
 | m + 1, x9_, zE103 =>
   iu x0 K0 m (x9_ + 1) (zE103 ++ ([(ix x0.Keys x9_).Value] : List (BitVec 32)))
def js (x0 : au) : (List (BitVec 32)) :=
 iu x0 (fun (zE103_112 : List (BitVec 32)) =>
  zE103_112) (Int.toNat ((x0.Keys.length : Int) - 0)) 0 ([] : List (BitVec 32))
def ov (x0 : cb) (x1 : List (List (BitVec 32))) : Bool := true
end Go.Proofs.YthdnpgpnodgicaaGreat
