import Derived.Test.YthdnpgpnodgicaaGreatKTy
set_option linter.unusedVariables false
set_option linter.unusedSimpArgs false
set_option maxRecDepth 100000
namespace Go.Proofs.YthdnpgpnodgicaaGreat
open Go Go.Pb Go.RowKit
def nl (x0 : List ak) (x1 : Int) (rec_ : (List ak) → Int → Int) (K0 : Int → Int) : Nat → Int → Int → Int
 | 0, x5_, x6_ => K0 x5_
 | m + 1, x5_, x6_ =>
   if ((decide (x6_ < (x0.length : Int))) && (decide (x5_ < 100))) then
    if ((decide (x1 = 0)) || (decide (40 < (((ix x0 x6_).Cond).length : Int)))) then
     100
    else
    LET (rec_ ((ix x0 x6_).Then) (wr (x1 - 1))) fun y111 =>
    LET (rec_ ((ix x0 x6_).Else) (wr (x1 - 1))) fun y114 =>
    nl x0 x1 rec_ K0 m (wr ((wr (x5_ + y111)) + y114)) (x6_ + 1)
   else
   K0 x5_
def pv (rec_ : (List ak) → Int → Int) (x0 : List ak) (x1 : Int) : Int :=
 nl x0 x1 rec_ (fun (x5_115 : Int) =>
  x5_115) (Int.toNat ((x0.length : Int) - 0)) (x0.length : Int) 0
def na : Nat → (List ak) → Int → Int
 | 0, _, _ => default
 | n_ + 1, x0, x1 => pv (na n_) x0 x1
def nf (x0 : List ak) (x1 : Int) : Int := na (x1.toNat + 1) x0 x1
def nk (x0 : cj) (K0 : Unit → Bool) : Nat → Int → Bool
 | 0, x3_ => K0 ()
 | m + 1, x3_ =>
   if (decide (30 < (((ix x0.Fields x3_).Name).length : Int))) then
    false
   else
   nk x0 K0 m (x3_ + 1)
def uh (x0 : cj) : Bool :=
 if ((decide (30 < (x0.Name.length : Int))) || (decide (20 < (x0.Fields.length : Int)))) then
  false
 else
 nk x0 (fun (_ : Unit) =>
  true) (Int.toNat ((x0.Fields.length : Int) - 0)) 0
def ka (x0 : cp) (K0 : Unit → Bool) : Nat → Int → Bool
 | 0, x3_ => K0 ()
 | m + 1, x3_ =>
   if ((decide (40 < (((ix x0.Body x3_).Index).length : Int))) || (decide (40 < (((ix x0.Body x3_).Value).length : Int)))) then
    true
   else
   ka x0 K0 m (x3_ + 1)
def ov (x0 : cp) : Bool :=
 if (((decide (8 < (x0.Params.length : Int))) || (decide (16 < (x0.Body.length : Int)))) || (decide (60 < (x0.Name.length : Int)))) then
  true
 else
 ka x0 (fun (_ : Unit) =>
  false) (Int.toNat ((x0.Body.length : Int) - 0)) 0
def pm (x0 : ck) : Bool :=
 (((decide (8 < (x0.Extract.length : Int))) || (decide (12 < (x0.Cases.length : Int)))) || (decide (60 < (x0.Name.length : Int))))
def lq (x0 : aa) (K0 : Unit → Bool) : Nat → Int → Bool
 | 0, x3_ => K0 ()
 | m + 1, x3_ =>
   LET (uh (ix x0.Headers x3_)) fun y125 =>
   if (!y125) then
    true
   else
   lq x0 K0 m (x3_ + 1)
def lm (x0 : aa) (K2 : Unit → Bool) : Nat → Int → Bool
 | 0, x4_ => K2 ()
 | m + 1, x4_ =>
   LET (ov (ix x0.Actions x4_)) fun y134 =>
   if y134 then
    true
   else
   lm x0 K2 m (x4_ + 1)
def lw (x0 : aa) (K4 : Unit → Bool) : Nat → Int → Bool
 | 0, x5_ => K4 ()
 | m + 1, x5_ =>
   if ((((decide (10 < (((ix x0.Tables x5_).Keys).length : Int))) || (decide (24 < (((ix x0.Tables x5_).Actions).length : Int)))) || (decide (8 < ((((ix x0.Tables x5_).Default).Args).length : Int)))) || (decide (60 < (((ix x0.Tables x5_).Name).length : Int)))) then
    true
   else
   lw x0 K4 m (x5_ + 1)
def lr (x0 : aa) (K6 : Unit → Bool) : Nat → Int → Bool
 | 0, x6_ => K6 ()
 | m + 1, x6_ =>
   LET (pm (ix x0.States x6_)) fun y164 =>
   if y164 then
    true
   else
   lr x0 K6 m (x6_ + 1)
def mc (x0 : aa) : Bool :=
 if (((((((((decide (60 < (x0.Name.length : Int))) || (decide (16 < (x0.Headers.length : Int)))) || (decide (20 < (x0.Metadata.length : Int)))) || (decide (8 < (x0.Registers.length : Int)))) || (decide (24 < (x0.Actions.length : Int)))) || (decide (16 < (x0.Tables.length : Int)))) || (decide (16 < (x0.States.length : Int)))) || (decide (16 < (x0.Deparser.length : Int)))) || (decide (60 < (nf x0.Control 10)))) then
  true
 else
 lq x0 (fun (_ : Unit) =>
  lm x0 (fun (_ : Unit) =>
   lw x0 (fun (_ : Unit) =>
    lr x0 (fun (_ : Unit) =>
     false) (Int.toNat ((x0.States.length : Int) - 0)) 0) (Int.toNat ((x0.Tables.length : Int) - 0)) 0) (Int.toNat ((x0.Actions.length : Int) - 0)) 0) (Int.toNat ((x0.Headers.length : Int) - 0)) 0
def jf (x0 : cg) (K0 : Unit → Bool) : Nat → Int → Bool
 | 0, x3_ => K0 ()
 | m + 1, x3_ =>
   if ((decide (20 < ((((ix x0.Rows x3_).Entry).Keys).length : Int))) || (decide (20 < (((((ix x0.Rows x3_).Entry).Call).Args).length : Int)))) then
    true
   else
   jf x0 K0 m (x3_ + 1)
def me (x0 : cg) : Bool :=
 LET (mc x0.Program) fun y102 =>
 if ((y102 || (decide (30 < (x0.Rows.length : Int)))) || (decide (20 < (x0.Key.length : Int)))) then
  true
 else
 jf x0 (fun (_ : Unit) =>
  false) (Int.toNat ((x0.Rows.length : Int) - 0)) 0
def aw5 : Bool := true
def ij (x0 : au) (x1 : List (BitVec 32)) (K0 : Unit → Bool) : Nat → Int → Bool
 | 0, x16_ => K0 ()
 | m + 1, x16_ =>
   if (!decide ((((ix x1 x16_) ^^^ ((ix x0.Keys x16_).Value)) &&& ((ix x0.Keys x16_).Mask)) = 0#32)) then
    false
   else
   ij x0 x1 K0 m (x16_ + 1)
def cn (x0 : au) (x1 : List (BitVec 32)) : Bool :=
 if (!decide ((x1.length : Int) = (x0.Keys.length : Int))) then
  false
 else
 ij x0 x1 (fun (_ : Unit) =>
  true) (Int.toNat ((x0.Keys.length : Int) - 0)) 0
def en (x0 : List aj) (x1 : aj → Bool) (K0 : aj → (aj × Bool)) : Nat → Int → aj → (aj × Bool)
 | 0, x11_, zE102 => K0 zE102
 | m + 1, x11_, zE102 =>
   if (x1 (ix x0 x11_)) then
    ((ix x0 x11_), true)
   else
   en x0 x1 K0 m (x11_ + 1) zE102
def cr (x0 : List aj) (x1 : aj → Bool) : aj × Bool :=
 en x0 x1 (fun (zE102_112 : aj) =>
  (({ ID := 0, Entry := ({ Keys := ([] : List ay), Priority := 0, Call := ({ Action := 0, Args := ([] : List (BitVec 32)) } : av) } : au) } : aj), false)) (Int.toNat ((x0.length : Int) - 0)) 0 ({ ID := 0, Entry := ({ Keys := ([] : List ay), Priority := 0, Call := ({ Action := 0, Args := ([] : List (BitVec 32)) } : av) } : au) } : aj)
def io (x0 : BitVec 32) (K0 : Int → Int) : Nat → Int → Int → Int
 | 0, x3_, x5_ => K0 x3_
 | m + 1, x3_, x5_ =>
   io x0 K0 m (wr (x3_ + (((x0 >>> x5_.toNat) &&& 1#32).toNat : Int))) (x5_ + 1)
def iy (x0 : BitVec 32) : Int :=
 io x0 (fun (x3_103 : Int) =>
  x3_103) (Int.toNat (32 - 0)) 0 0
def fj (x0 : aa) (x1 : Int) (x2 : au) (K0 : Unit → Int) : Nat → Int → Int
 | 0, x25_ => K0 ()
 | m + 1, x25_ =>
   if (decide (((ix ((ix x0.Tables x1).Keys) x25_).Kind) = 2)) then
    if (decide (x25_ < (x2.Keys.length : Int))) then
     LET (iy ((ix x2.Keys x25_).Mask)) fun y118 =>
     y118
    else
    0
   else
   fj x0 x1 x2 K0 m (x25_ + 1)
def fk (x0 : aa) (x1 : Int) (x2 : au) : Int :=
 if ((decide (x1 < 0)) || (decide ((x0.Tables.length : Int) ≤ x1))) then
  0
 else
 fj x0 x1 x2 (fun (_ : Unit) =>
  0) (Int.toNat ((((ix x0.Tables x1).Keys).length : Int) - 0)) 0
def di (x0 : aa) (x1 : Int) (x2 : aj) (x3 : aj) : Bool :=
 if (!decide (x2.Entry.Priority = x3.Entry.Priority)) then
  (decide (x3.Entry.Priority < x2.Entry.Priority))
 else
 LET (fk x0 x1 x2.Entry) fun y107 =>
 LET (fk x0 x1 x3.Entry) fun y109 =>
 if (!decide (y107 = y109)) then
  (decide (y109 < y107))
 else
 (decide (x2.ID < x3.ID))
def jc (x0 : aa) (x1 : Int) (x2 : List aj) (x3 : List (BitVec 32)) : aj × Bool :=
 if decide (x1 < 0) || decide ((x0.Tables.length : Int) ≤ x1) then (({ ID := 0, Entry := ({ Keys := ([] : List ay), Priority := 0, Call := ({ Action := 0, Args := ([] : List (BitVec 32)) } : av) } : au) } : aj), false)
 else cr x2 (fun r => cn r.Entry x3 && !(cr x2 (fun x => cn x.Entry x3 && di x0 x1 x r)).2)
def jt (x0 : au) (x1 : List (BitVec 32)) (K0 : Unit → Bool) : Nat → Int → Bool
 | 0, x5_ => K0 ()
 | m + 1, x5_ =>
   if (!decide ((((ix x1 x5_) ^^^ ((ix x0.Keys x5_).Value)) &&& ((ix x0.Keys x5_).Mask)) = 0#32)) then
    false
   else
   jt x0 x1 K0 m (x5_ + 1)
def od (x0 : au) (x1 : List (BitVec 32)) : Bool :=
 if (!decide ((x0.Keys.length : Int) = (x1.length : Int))) then
  false
 else
 jt x0 x1 (fun (_ : Unit) =>
  true) (Int.toNat ((x1.length : Int) - 0)) 0
def iu (K0 : Int → Int) : Nat → (BitVec 32) → Int → Int → Int
 | 0, x0_, x3_, x4_ => K0 x3_
 | m + 1, x0_, x3_, x4_ =>
   iu K0 m (x0_ / 2#32) (wr (x3_ + ((x0_ % 2#32).toNat : Int))) (x4_ + 1)
def mu (x0 : BitVec 32) : Int :=
 iu (fun (x3_103 : Int) =>
  x3_103) (Int.toNat (32 - 0)) x0 0 0
def ik (x0 : aa) (x1 : Int) (x2 : au) (K0 : Unit → Int) : Nat → Int → Int
 | 0, x7_ => K0 ()
 | m + 1, x7_ =>
   if (decide (((ix ((ix x0.Tables x1).Keys) x7_).Kind) = 2)) then
    if (decide ((x2.Keys.length : Int) ≤ x7_)) then
     0
    else
    LET (mu ((ix x2.Keys x7_).Mask)) fun y121 =>
    y121
   else
   ik x0 x1 x2 K0 m (x7_ + 1)
def kt (x0 : aa) (x1 : Int) (x2 : au) : Int :=
 if ((decide (x1 < 0)) || (decide ((x0.Tables.length : Int) ≤ x1))) then
  0
 else
 ik x0 x1 x2 (fun (_ : Unit) =>
  0) (Int.toNat ((((ix x0.Tables x1).Keys).length : Int) - 0)) 0
def kb (x0 : aa) (x1 : Int) (x2 : aj) (x3 : aj) : Bool :=
 LET (kt x0 x1 x2.Entry) fun y102 =>
 LET (kt x0 x1 x3.Entry) fun y104 =>
 if (!decide (x2.Entry.Priority = x3.Entry.Priority)) then
  (decide (x3.Entry.Priority < x2.Entry.Priority))
 else
 if (!decide (y102 = y104)) then
  (decide (y104 < y102))
 else
 (decide (x2.ID < x3.ID))
def jv (x0 : aa) (x1 : Int) (x2 : List aj) (x3 : List (BitVec 32)) (K0 : Bool → aj → (aj × Bool)) : Nat → Bool → Int → aj → (aj × Bool)
 | 0, x11_, x12_, zE104 => K0 x11_ zE104
 | m + 1, x11_, x12_, zE104 =>
   if (((decide (x12_ < (x2.length : Int))) && (decide (0 ≤ x1))) && (decide (x1 < (x0.Tables.length : Int)))) then
    LET (od ((ix x2 x12_).Entry) x3) fun y117 =>
    if (y117 && ((!x11_) || (kb x0 x1 (ix x2 x12_) zE104))) then
     jv x0 x1 x2 x3 K0 m true (x12_ + 1) (ix x2 x12_)
    else
    jv x0 x1 x2 x3 K0 m x11_ (x12_ + 1) zE104
   else
   K0 x11_ zE104
def iv (x0 : aa) (x1 : Int) (x2 : List aj) (x3 : List (BitVec 32)) : aj × Bool :=
 jv x0 x1 x2 x3 (fun (x11_125 : Bool) (zE104_125 : aj) =>
  (zE104_125, x11_125)) (Int.toNat ((x2.length : Int) - 0)) false 0 ({ ID := 0, Entry := ({ Keys := ([] : List ay), Priority := 0, Call := ({ Action := 0, Args := ([] : List (BitVec 32)) } : av) } : au) } : aj)
def ga (x0 : au) (x1 : au) (K0 : Unit → Bool) : Nat → Int → Bool
 | 0, x5_ => K0 ()
 | m + 1, x5_ =>
   if (!decide ((ix x0.Keys x5_) = (ix x1.Keys x5_))) then
    false
   else
   ga x0 x1 K0 m (x5_ + 1)
def gb (x0 : au) (x1 : au) : Bool :=
 if ((!decide ((x0.Keys.length : Int) = (x1.Keys.length : Int))) || (!decide (x0.Priority = x1.Priority))) then
  false
 else
 ga x0 x1 (fun (_ : Unit) =>
  true) (Int.toNat ((x0.Keys.length : Int) - 0)) 0
def im (x0 : av) (x1 : av) (K0 : Unit → Bool) : Nat → Int → Bool
 | 0, x5_ => K0 ()
 | m + 1, x5_ =>
   if (!decide ((ix x0.Args x5_) = (ix x1.Args x5_))) then
    false
   else
   im x0 x1 K0 m (x5_ + 1)
def mf (x0 : av) (x1 : av) : Bool :=
 if ((!decide (x0.Action = x1.Action)) || (!decide ((x0.Args.length : Int) = (x1.Args.length : Int)))) then
  false
 else
 im x0 x1 (fun (_ : Unit) =>
  true) (Int.toNat ((x0.Args.length : Int) - 0)) 0
def pw (x0 : au) (x1 : au) : Bool :=
 LET (gb x0 x1) fun y101 =>
 (y101 && (mf x0.Call x1.Call))
def ri (x0 : aj) (x1 : aj) : Bool :=
 ((decide (x0.ID = x1.ID)) && (pw x0.Entry x1.Entry))
def ly (x0 : UInt8) : Bool :=
 (((decide ((97 : UInt8) ≤ x0)) && (decide (x0 ≤ (122 : UInt8)))) || ((decide ((65 : UInt8) ≤ x0)) && (decide (x0 ≤ (90 : UInt8)))))
def nr (x0 : UInt8) : Bool :=
 ((decide ((48 : UInt8) ≤ x0)) && (decide (x0 ≤ (57 : UInt8))))
def gm (x0 : List UInt8) (K0 : Unit → Bool) : Nat → Int → Bool
 | 0, x3_ => K0 ()
 | m + 1, x3_ =>
   LET (ly (ix x0 x3_)) fun y107 =>
   if (((!y107) && (!(nr (ix x0 x3_)))) && (!decide ((ix x0 x3_) = (95 : UInt8)))) then
    false
   else
   gm x0 K0 m (x3_ + 1)
def kw (x0 : List UInt8) : Bool :=
 if (((decide (x0 = ([] : List UInt8))) || (decide (16 < (x0.length : Int)))) || (!(ly (ix x0 0)))) then
  false
 else
 gm x0 (fun (_ : Unit) =>
  true) (Int.toNat ((x0.length : Int) - 0)) 0
def jx (x0 : aa) (x1 : cf) : Int :=
 LET (fun (x5_108 : List bw) =>
  if (((((decide (x1.Header < (-1))) || (decide (x1.Field < 0))) || (decide ((x5_108.length : Int) ≤ x1.Field))) || (decide (((ix x5_108 x1.Field).Width) < 1))) || (decide (32 < ((ix x5_108 x1.Field).Width)))) then
   0
  else
  (ix x5_108 x1.Field).Width) fun k108 =>
 if (decide (0 ≤ x1.Header)) then
  if (decide ((x0.Headers.length : Int) ≤ x1.Header)) then
   0
  else
  k108 ((ix x0.Headers x1.Header).Fields)
 else
 k108 x0.Metadata
def ie (x0 : aa) (x1 : ax) (K0 : Int → Int → (Int × Int)) : Nat → Int → Int → Int → (Int × Int)
 | 0, x6_, x7_, x8_ => K0 x6_ x7_
 | m + 1, x6_, x7_, x8_ =>
   LET (jx x0 ((ix x1.Keys x8_).Field)) fun y108 =>
   if (decide (y108 = 0)) then
    (x8_, 8)
   else
   if (((!decide (((ix x1.Keys x8_).Kind) = 1)) && (!decide (((ix x1.Keys x8_).Kind) = 2))) && (!decide (((ix x1.Keys x8_).Kind) = 3))) then
    (x8_, 11)
   else
   if (decide (((ix x1.Keys x8_).Kind) = 2)) then
    ie x0 x1 K0 m (wr (x6_ + y108)) (wr (x7_ + 1)) (x8_ + 1)
   else
   ie x0 x1 K0 m (wr (x6_ + y108)) x7_ (x8_ + 1)
def nd (x0 : aa) (x1 : ax) : Int × Int :=
 ie x0 x1 (fun (x6_116 : Int) (x7_116 : Int) =>
  if (decide (1 < x7_116)) then
   ((-2), 7)
  else
  if (decide (64 < x6_116)) then
   ((-2), 10)
  else
  (0, 0)) (Int.toNat ((x1.Keys.length : Int) - 0)) 0 0 0
def gx (x0 : List Int) (x1 : Int) (K0 : Unit → Int) : Nat → Int → Int
 | 0, x5_ => K0 ()
 | m + 1, x5_ =>
   if (decide ((ix x0 x5_) = x1)) then
    x5_
   else
   gx x0 x1 K0 m (x5_ + 1)
def gg (x0 : List Int) (x1 : Int) : Int :=
 gx x0 x1 (fun (_ : Unit) =>
  (-1)) (Int.toNat ((x0.length : Int) - 0)) 0
def fm (x0 : Int) : Bool :=
 ((decide (1 ≤ x0)) && (decide (x0 ≤ 32)))
def nn (K0 : (BitVec 64) → (BitVec 64)) : Nat → (BitVec 64) → Int → (BitVec 64)
 | 0, x3_, x4_ => K0 x3_
 | m + 1, x3_, x4_ =>
   nn K0 m (2#64 * x3_) (x4_ + 1)
def kn (x0 : Int) : (BitVec 64) :=
 nn (fun (x3_103 : BitVec 64) =>
  x3_103) (Int.toNat (x0 - 0)) 1#64 0
def ku (x0 : BitVec 32) (x1 : Int) : Bool :=
 LET (fm x1) fun y101 =>
 (y101 && (decide ((BitVec.setWidth 64 x0) < (kn x1))))
def iw (x0 : aa) (x1 : av) (K0 : Unit → Int) : Nat → Int → Int
 | 0, x6_ => K0 ()
 | m + 1, x6_ =>
   LET (ku (ix x1.Args x6_) ((ix ((ix x0.Actions x1.Action).Params) x6_).Width)) fun y113 =>
   if (!y113) then
    9
   else
   iw x0 x1 K0 m (x6_ + 1)
def li (x0 : aa) (x1 : av) : Int :=
 if ((decide (x1.Action < 0)) || (decide ((x0.Actions.length : Int) ≤ x1.Action))) then
  8
 else
 if (!decide ((x1.Args.length : Int) = (((ix x0.Actions x1.Action).Params).length : Int))) then
  2
 else
 iw x0 x1 (fun (_ : Unit) =>
  0) (Int.toNat ((((ix x0.Actions x1.Action).Params).length : Int) - 0)) 0
def ja (x0 : aa) (x1 : ax) (K0 : Unit → Int) : Nat → Int → Int
 | 0, x5_ => K0 ()
 | m + 1, x5_ =>
   if ((decide ((ix x1.Actions x5_) < 0)) || (decide ((x0.Actions.length : Int) ≤ (ix x1.Actions x5_)))) then
    8
   else
   LET (gg x1.Actions (ix x1.Actions x5_)) fun y112 =>
   if (decide (y112 < x5_)) then
    7
   else
   ja x0 x1 K0 m (x5_ + 1)
def oc (x0 : aa) (x1 : ax) : Int :=
 ja x0 x1 (fun (_ : Unit) =>
  LET (gg x1.Actions x1.Default.Action) fun y117 =>
  if (decide (y117 < 0)) then
   8
  else
  LET (li x0 x1.Default) fun y120 =>
  y120) (Int.toNat ((x1.Actions.length : Int) - 0)) 0
def fc (x0 : aa) (x1 : Int) : Int × Int :=
 if ((decide (x1 < 0)) || (decide ((x0.Tables.length : Int) ≤ x1))) then
  ((-1), 8)
 else
 LET (kw ((ix x0.Tables x1).Name)) fun y109 =>
 if (!y109) then
  ((-1), 6)
 else
 if ((decide (6 < (((ix x0.Tables x1).Keys).length : Int))) || (decide (16 < (((ix x0.Tables x1).Actions).length : Int)))) then
  ((-1), 12)
 else
 if ((decide (((ix x0.Tables x1).Size) < 1)) || (decide (256 < ((ix x0.Tables x1).Size)))) then
  ((-1), 9)
 else
 LET (nd x0 (ix x0.Tables x1)) fun y117 =>
 if (!decide (y117.2 = 0)) then
  (y117.1, y117.2)
 else
 LET (oc x0 (ix x0.Tables x1)) fun y119 =>
 if (!decide (y119 = 0)) then
  ((-3), y119)
 else
 (0, 0)
def fe (x0 : aa) (x1 : Int) : Bool :=
 LET (fc x0 x1) fun y101 =>
 (decide (y101.2 = 0))
def jn (x0 : aa) (x1 : Int) (K0 : (List Int) → (List Int)) : Nat → Int → (List Int) → (List Int)
 | 0, x6_, zE104 => K0 zE104
 | m + 1, x6_, zE104 =>
   LET (jx x0 ((ix ((ix x0.Tables x1).Keys) x6_).Field)) fun y118 =>
   jn x0 x1 K0 m (x6_ + 1) (zE104 ++ ([y118] : List Int))
def db (x0 : aa) (x1 : Int) : (List Int) :=
 LET (fe x0 x1) fun y101 =>
 if (!y101) then
  ([] : List Int)
 else
 jn x0 x1 (fun (zE104_121 : List Int) =>
  zE104_121) (Int.toNat ((((ix x0.Tables x1).Keys).length : Int) - 0)) 0 ([] : List Int)
def ma (x0 : Int) (x1 : Int) : (BitVec 32) :=
 LET (fm x1) fun y101 =>
 if (!y101) then
  0#32
 else
 LET (kn x1) fun y103 =>
 LET (kn (wr (x1 - (min (max x0 0) x1)))) fun y104 =>
 (BitVec.setWidth 32 (y103 - y104))
def gw (x0 : BitVec 32) (x1 : Int) (K0 : Unit → (Int × Bool)) : Nat → Int → (Int × Bool)
 | 0, x6_ => K0 ()
 | m + 1, x6_ =>
   if ((decide (x6_ ≤ x1)) && (fm x1)) then
    LET (ma x6_ x1) fun y107 =>
    if (decide (y107 = x0)) then
     (x6_, true)
    else
    gw x0 x1 K0 m (x6_ + 1)
   else
   K0 ()
def jm (x0 : BitVec 32) (x1 : Int) : Int × Bool :=
 gw x0 x1 (fun (_ : Unit) =>
  (0, false)) (Int.toNat ((x1 + 1) - 0)) 0
def jh (x0 : Int) : (BitVec 32) :=
 LET (fm x0) fun y101 =>
 if (!y101) then
  0#32
 else
 LET (kn x0) fun y103 =>
 (BitVec.setWidth 32 (y103 - 1#64))
def ji (x0 : ay) (x1 : Int) (x2 : Int) : Int :=
 LET (jm x0.Mask x1) fun y101 =>
 LET (ku x0.Value x1) fun y102 =>
 if ((!y102) || (!(ku x0.Mask x1))) then
  9
 else
 if (!decide ((x0.Value &&& x0.Mask) = x0.Value)) then
  5
 else
 if (((decide (x2 = 1)) && (!decide (x0.Mask = (jh x1)))) || ((decide (x2 = 2)) && (!y101.2))) then
  11
 else
 0
def fq (x0 : aa) (x1 : Int) (K0 : Int → Int) : Nat → Int → Int → Int
 | 0, x5_, x6_ => K0 x5_
 | m + 1, x5_, x6_ =>
   fq x0 x1 K0 m (max x5_ ((ix ((ix x0.Tables x1).Keys) x6_).Kind)) (x6_ + 1)
def lc (x0 : aa) (x1 : Int) : Int :=
 LET (fe x0 x1) fun y101 =>
 if (!y101) then
  0
 else
 fq x0 x1 (fun (x5_115 : Int) =>
  x5_115) (Int.toNat ((((ix x0.Tables x1).Keys).length : Int) - 0)) 1 0
def pg (x0 : aa) (x1 : Int) (x2 : Int) : Bool :=
 LET (fe x0 x1) fun y101 =>
 (y101 && (decide (0 ≤ (gg ((ix x0.Tables x1).Actions) x2))))
def jg (x0 : aa) (x1 : Int) (x2 : au) (y103 : (List Int)) (K0 : Unit → Int) : Nat → Int → Int
 | 0, x10_ => K0 ()
 | m + 1, x10_ =>
   LET (ji (ix x2.Keys x10_) (ix y103 x10_) ((ix ((ix x0.Tables x1).Keys) x10_).Kind)) fun y115 =>
   if (!decide (y115 = 0)) then
    y115
   else
   jg x0 x1 x2 y103 K0 m (x10_ + 1)
def ke (x0 : aa) (x1 : Int) (x2 : au) : Int :=
 LET (fc x0 x1) fun y101 =>
 if (!decide (y101.2 = 0)) then
  y101.2
 else
 LET (db x0 x1) fun y103 =>
 if (!decide ((x2.Keys.length : Int) = (y103.length : Int))) then
  2
 else
 jg x0 x1 x2 y103 (fun (_ : Unit) =>
  if ((decide (x2.Priority < 0)) || (decide (255 < x2.Priority))) then
   9
  else
  if ((decide (0 < x2.Priority)) && (!decide ((lc x0 x1) = 3))) then
   11
  else
  LET (pg x0 x1 x2.Call.Action) fun y124 =>
  if (!y124) then
   8
  else
  LET (li x0 x2.Call) fun y127 =>
  y127) (Int.toNat ((y103.length : Int) - 0)) 0
def kf (x2 : List aj) (x9_ : Int) (K2 : Unit → Int) : Nat → Int → Int
 | 0, x10_ => K2 ()
 | m + 1, x10_ =>
   if ((decide (((ix x2 x10_).ID) = ((ix x2 x9_).ID))) || (gb ((ix x2 x10_).Entry) ((ix x2 x9_).Entry))) then
    7
   else
   kf x2 x9_ K2 m (x10_ + 1)
def gy (x0 : aa) (x1 : Int) (x2 : List aj) (K0 : Unit → Int) : Nat → Int → Int
 | 0, x9_ => K0 ()
 | m + 1, x9_ =>
   LET (ke x0 x1 ((ix x2 x9_).Entry)) fun y107 =>
   if (!decide (y107 = 0)) then
    y107
   else
   kf x2 x9_ (fun (_ : Unit) =>
    gy x0 x1 x2 K0 m (x9_ + 1)) (Int.toNat (x9_ - 0)) 0
def nh (x0 : aa) (x1 : Int) (x2 : List aj) : Int :=
 LET (fc x0 x1) fun y101 =>
 if (!decide (y101.2 = 0)) then
  y101.2
 else
 gy x0 x1 x2 (fun (_ : Unit) =>
  0) (Int.toNat ((x2.length : Int) - 0)) 0
def jy (x0 : UInt8) : Bool :=
 (((decide ((97 : UInt8) ≤ x0)) && (decide (x0 ≤ (122 : UInt8)))) || ((decide ((65 : UInt8) ≤ x0)) && (decide (x0 ≤ (90 : UInt8)))))
def kg (x0 : List UInt8) (x1 : UInt8 → Bool) (K0 : Int → Int) : Nat → Int → Int
 | 0, x5_ => K0 x5_
 | m + 1, x5_ =>
   if ((decide (x5_ < (x0.length : Int))) && (x1 (ix x0 x5_))) then
    kg x0 x1 K0 m (x5_ + 1)
   else
   K0 x5_
def qc (x0 : List UInt8) (x1 : UInt8 → Bool) : Int :=
 kg x0 x1 (fun (x5_107 : Int) =>
  x5_107) (Int.toNat ((x0.length : Int) - 0)) 0
def ki (x0 : UInt8) : Bool :=
 ((decide ((48 : UInt8) ≤ x0)) && (decide (x0 ≤ (57 : UInt8))))
def jb (x0 : UInt8) : Bool :=
 LET (jy x0) fun y101 =>
 ((y101 || (ki x0)) || (decide (x0 = (95 : UInt8))))
def ld (x0 : List UInt8) : Bool :=
 if (((decide ((x0.length : Int) = 0)) || (decide (16 < (x0.length : Int)))) || (!(jy (ix x0 0)))) then
  false
 else
 LET (qc x0 jb) fun y105 =>
 (decide (y105 = (x0.length : Int)))
def gn (x0 : List cj) (x1 : Int) : cj :=
 if ((decide (x1 < 0)) || (decide ((x0.length : Int) ≤ x1))) then
  ({ Name := ([] : List UInt8), Fields := ([] : List bw) } : cj)
 else
 (ix x0 x1)
def tp (x0 : aa) (x1 : Int) : (List bw) :=
 if (decide (x1 = (-1))) then
  x0.Metadata
 else
 LET (gn x0.Headers x1) fun y104 =>
 y104.Fields
def kp (x0 : List bw) (x1 : Int) : bw :=
 if ((decide (x1 < 0)) || (decide ((x0.length : Int) ≤ x1))) then
  ({ Name := ([] : List UInt8), Width := 0 } : bw)
 else
 (ix x0 x1)
def kh (x0 : List Int) (K0 : Unit → Bool) : Nat → Int → Bool
 | 0, x7_ => K0 ()
 | m + 1, x7_ =>
   if ((decide ((ix x0 x7_) < 1)) || (decide (32 < (ix x0 x7_)))) then
    false
   else
   kh x0 K0 m (x7_ + 1)
def ii (x0 : List Int) : Bool :=
 kh x0 (fun (_ : Unit) =>
  true) (Int.toNat ((x0.length : Int) - 0)) 0
def dq (x0 : Int) : (BitVec 32) :=
 LET (ii ([x0] : List Int)) fun y102 =>
 if (!y102) then
  0#32
 else
 (4294967295#32 >>> (wr (32 - x0)).toNat)
def oq (x0 : aa) (x1 : cf) : Int :=
 LET (tp x0 x1.Header) fun y101 =>
 LET (kp y101 x1.Field) fun y103 =>
 LET (dq y103.Width) fun y105 =>
 if (decide (y105 = 0#32)) then
  0
 else
 y103.Width
def gu (x0 : aa) (x1 : ax) (K0 : Int → Int → (Int × Int)) : Nat → Int → Int → Int → (Int × Int)
 | 0, x6_, x7_, x14_ => K0 x6_ x7_
 | m + 1, x6_, x7_, x14_ =>
   LET (oq x0 ((ix x1.Keys x14_).Field)) fun y109 =>
   if (decide (y109 = 0)) then
    (x14_, 8)
   else
   if (decide (((ix x1.Keys x14_).Kind) = 2)) then
    gu x0 x1 K0 m (wr (x6_ + 1)) (wr (x7_ + y109)) (x14_ + 1)
   else
   LET (fun (x33_113 : Bool) =>
    if x33_113 then
     gu x0 x1 K0 m x6_ (wr (x7_ + y109)) (x14_ + 1)
    else
    (x14_, 11)) fun k113 =>
   if (decide (((ix x1.Keys x14_).Kind) = 1)) then
    k113 (decide (((ix x1.Keys x14_).Kind) = 1))
   else
   k113 (decide (((ix x1.Keys x14_).Kind) = 3))
def ll (x0 : aa) (x1 : ax) : Int × Int :=
 gu x0 x1 (fun (x6_116 : Int) (x7_116 : Int) =>
  if (decide (1 < x6_116)) then
   ((-2), 7)
  else
  if (decide (64 < x7_116)) then
   ((-2), 10)
  else
  (0, 0)) (Int.toNat ((x1.Keys.length : Int) - 0)) 0 0 0
def gz (x0 : BitVec 32) (x1 : Int) : Bool :=
 LET (ii ([x1] : List Int)) fun y102 =>
 (y102 && (decide (x0 ≤ (dq x1))))
def il (x0 : aa) (x1 : av) (K0 : Unit → Int) : Nat → Int → Int
 | 0, x35_ => K0 ()
 | m + 1, x35_ =>
   LET (gz (ix x1.Args x35_) ((ix ((ix x0.Actions x1.Action).Params) x35_).Width)) fun y113 =>
   if (!y113) then
    9
   else
   il x0 x1 K0 m (x35_ + 1)
def kr (x0 : aa) (x1 : av) : Int :=
 if ((decide (x1.Action < 0)) || (decide ((x0.Actions.length : Int) ≤ x1.Action))) then
  8
 else
 if (!decide ((x1.Args.length : Int) = (((ix x0.Actions x1.Action).Params).length : Int))) then
  2
 else
 il x0 x1 (fun (_ : Unit) =>
  0) (Int.toNat ((x1.Args.length : Int) - 0)) 0
def fw (x0 : aa) (x1 : ax) (K0 : (List (Int × Bool)) → Int) : Nat → Int → (List (Int × Bool)) → Int
 | 0, x12_, zE102 => K0 zE102
 | m + 1, x12_, zE102 =>
   if ((decide ((ix x1.Actions x12_) < 0)) || (decide ((x0.Actions.length : Int) ≤ (ix x1.Actions x12_)))) then
    8
   else
   if ((mget zE102 (ix x1.Actions x12_)).getD false) then
    7
   else
   fw x0 x1 K0 m (x12_ + 1) (mput zE102 (ix x1.Actions x12_) true)
def kx (x0 : aa) (x1 : ax) : Int :=
 fw x0 x1 (fun (zE102_112 : List (Int × Bool)) =>
  if (!((mget zE102_112 x1.Default.Action).getD false)) then
   8
  else
  LET (kr x0 x1.Default) fun y117 =>
  y117) (Int.toNat ((x1.Actions.length : Int) - 0)) 0 ([] : List (Int × Bool))
def gj (x0 : aa) (x1 : Int) : Int × Int :=
 if ((decide (x1 < 0)) || (decide ((x0.Tables.length : Int) ≤ x1))) then
  ((-1), 8)
 else
 LET (ld ((ix x0.Tables x1).Name)) fun y109 =>
 if (!y109) then
  ((-1), 6)
 else
 if ((decide (6 < (((ix x0.Tables x1).Keys).length : Int))) || (decide (16 < (((ix x0.Tables x1).Actions).length : Int)))) then
  ((-1), 12)
 else
 if ((decide (((ix x0.Tables x1).Size) < 1)) || (decide (256 < ((ix x0.Tables x1).Size)))) then
  ((-1), 9)
 else
 LET (ll x0 (ix x0.Tables x1)) fun y117 =>
 if (!decide (y117.2 = 0)) then
  (y117.1, y117.2)
 else
 LET (kx x0 (ix x0.Tables x1)) fun y119 =>
 if (!decide (y119 = 0)) then
  ((-3), y119)
 else
 (0, 0)
def fx (x0 : aa) (x1 : Int) : Bool :=
 LET (gj x0 x1) fun y101 =>
 (decide (y101.2 = 0))
def jq (x0 : aa) (x1 : Int) (K0 : (List Int) → (List Int)) : Nat → Int → (List Int) → (List Int)
 | 0, x19_, zE107 => K0 zE107
 | m + 1, x19_, zE107 =>
   LET (oq x0 ((ix ((ix x0.Tables x1).Keys) x19_).Field)) fun y115 =>
   jq x0 x1 K0 m (x19_ + 1) (zE107 ++ ([y115] : List Int))
def dn (x0 : aa) (x1 : Int) : (List Int) :=
 LET (fx x0 x1) fun y101 =>
 if (!y101) then
  ([] : List Int)
 else
 jq x0 x1 (fun (zE107_118 : List Int) =>
  zE107_118) (Int.toNat ((((ix x0.Tables x1).Keys).length : Int) - 0)) 0 ([] : List Int)
def fh (x0 : Int) (x1 : Int) : (BitVec 32) :=
 LET (ii ([x1] : List Int)) fun y102 =>
 if (!y102) then
  0#32
 else
 LET (dq x1) fun y104 =>
 LET (dq x1) fun y105 =>
 (y104 &&& ~~~(y105 >>> (min (max x0 0) x1).toNat))
def ej (x0 : BitVec 32) (x1 : Int) (K0 : Unit → (Int × Bool)) : Nat → Int → (Int × Bool)
 | 0, x13_ => K0 ()
 | m + 1, x13_ =>
   LET (fh x13_ x1) fun y106 =>
   if (decide (y106 = x0)) then
    (x13_, true)
   else
   ej x0 x1 K0 m (x13_ + 1)
def dk (x0 : BitVec 32) (x1 : Int) : Int × Bool :=
 LET (ii ([x1] : List Int)) fun y102 =>
 if (!y102) then
  (0, false)
 else
 ej x0 x1 (fun (_ : Unit) =>
  (0, false)) (Int.toNat ((wr (x1 + 1)) - 0)) 0
def ng (x0 : ay) (x1 : Int) (x2 : Int) : Int :=
 LET (gz x0.Value x2) fun y101 =>
 if ((!y101) || (!(gz x0.Mask x2))) then
  9
 else
 if (!decide ((x0.Value &&& ~~~x0.Mask) = 0#32)) then
  5
 else
 if ((decide (x1 = 1)) && (!decide (x0.Mask = (dq x2)))) then
  11
 else
 LET (fun (_ : Unit) =>
  0) fun k112 =>
 if (decide (x1 = 2)) then
  LET (dk x0.Mask x2) fun y114 =>
  if (!y114.2) then
   11
  else
  k112 ()
 else
 k112 ()
def kj (x0 : aa) (x1 : Int) (K0 : Int → Int) : Nat → Int → Int → Int
 | 0, x5_, x19_ => K0 x5_
 | m + 1, x5_, x19_ =>
   if (decide (((ix ((ix x0.Tables x1).Keys) x19_).Kind) = 3)) then
    3
   else
   if (decide (((ix ((ix x0.Tables x1).Keys) x19_).Kind) = 2)) then
    kj x0 x1 K0 m 2 (x19_ + 1)
   else
   kj x0 x1 K0 m x5_ (x19_ + 1)
def fb (x0 : aa) (x1 : Int) : Int :=
 LET (fx x0 x1) fun y101 =>
 if (!y101) then
  0
 else
 kj x0 x1 (fun (x5_114 : Int) =>
  x5_114) (Int.toNat ((((ix x0.Tables x1).Keys).length : Int) - 0)) 1 0
def jo (x0 : aa) (x1 : Int) (x2 : Int) (K0 : Unit → Bool) : Nat → Int → Bool
 | 0, x20_ => K0 ()
 | m + 1, x20_ =>
   if (decide ((ix ((ix x0.Tables x1).Actions) x20_) = x2)) then
    true
   else
   jo x0 x1 x2 K0 m (x20_ + 1)
def nu (x0 : aa) (x1 : Int) (x2 : Int) : Bool :=
 LET (fx x0 x1) fun y101 =>
 if (!y101) then
  false
 else
 jo x0 x1 x2 (fun (_ : Unit) =>
  false) (Int.toNat ((((ix x0.Tables x1).Actions).length : Int) - 0)) 0
def lb (x0 : aa) (x1 : Int) (x2 : au) (y106 : (List Int)) (K0 : Unit → Int) : Nat → Int → Int
 | 0, x41_ => K0 ()
 | m + 1, x41_ =>
   LET (ng (ix x2.Keys x41_) ((ix ((ix x0.Tables x1).Keys) x41_).Kind) (ix y106 x41_)) fun y118 =>
   if (!decide (y118 = 0)) then
    y118
   else
   lb x0 x1 x2 y106 K0 m (x41_ + 1)
def lu (x0 : aa) (x1 : Int) (x2 : au) : Int :=
 LET (gj x0 x1) fun y101 =>
 if (!decide (y101.2 = 0)) then
  y101.2
 else
 LET (dn x0 x1) fun y106 =>
 if (!decide ((x2.Keys.length : Int) = (((ix x0.Tables x1).Keys).length : Int))) then
  2
 else
 lb x0 x1 x2 y106 (fun (_ : Unit) =>
  if ((decide (x2.Priority < 0)) || (decide (255 < x2.Priority))) then
   9
  else
  if ((!decide (x2.Priority = 0)) && (!decide ((fb x0 x1) = 3))) then
   11
  else
  LET (nu x0 x1 x2.Call.Action) fun y127 =>
  if (!y127) then
   8
  else
  LET (kr x0 x2.Call) fun y130 =>
  y130) (Int.toNat ((x2.Keys.length : Int) - 0)) 0
def js (x0 : au) (x1 : au) (K0 : Unit → Bool) : Nat → Int → Bool
 | 0, x24_ => K0 ()
 | m + 1, x24_ =>
   if (!decide ((ix x0.Keys x24_) = (ix x1.Keys x24_))) then
    false
   else
   js x0 x1 K0 m (x24_ + 1)
def iq (x0 : au) (x1 : au) : Bool :=
 if ((!decide (x0.Priority = x1.Priority)) || (!decide ((x0.Keys.length : Int) = (x1.Keys.length : Int)))) then
  false
 else
 js x0 x1 (fun (_ : Unit) =>
  true) (Int.toNat ((x0.Keys.length : Int) - 0)) 0
def bp (x0 : List bh) (x1 : bh → Bool) (K0 : Unit → Int) : Nat → Int → Int
 | 0, x8_ => K0 ()
 | m + 1, x8_ =>
   if (x1 (ix x0 x8_)) then
    x8_
   else
   bp x0 x1 K0 m (x8_ + 1)
def fy (x0 : List bh) (x1 : bh → Bool) : Int :=
 bp x0 x1 (fun (_ : Unit) =>
  (-1)) (Int.toNat ((x0.length : Int) - 0)) 0
def iz (x0 : au) (K0 : (List (BitVec 32)) → (List (BitVec 32))) : Nat → Int → (List (BitVec 32)) → (List (BitVec 32))
 | 0, x9_, zE103 => K0 zE103
 | m + 1, x9_, zE103 =>
   iz x0 K0 m (x9_ + 1) (zE103 ++ ([(ix x0.Keys x9_).Value] : List (BitVec 32)))
def jw (x0 : au) : (List (BitVec 32)) :=
 iz x0 (fun (zE103_112 : List (BitVec 32)) =>
  zE103_112) (Int.toNat ((x0.Keys.length : Int) - 0)) 0 ([] : List (BitVec 32))
def ot (x0 : cg) : Bool := true
end Go.Proofs.YthdnpgpnodgicaaGreat
