import Derived.Test.YtmonnlkagniolaaGreatKTy
import Derived.Test.YtmonnlkagniolaaGreatPbV
set_option linter.unusedVariables false
set_option linter.unusedSimpArgs false
set_option maxRecDepth 100000
namespace Go.Proofs.YtmonnlkagniolaaGreat
open Go Go.Pb Go.RowKit
def oq (x0 : List aj) (x1 : Int) (rec_ : (List aj) → Int → Int) (K0 : Int → Int) : Nat → Int → Int → Int
 | 0, x5_, x6_ => K0 x5_
 | m + 1, x5_, x6_ =>
   if ((decide (x6_ < (x0.length : Int))) && (decide (x5_ < 100))) then
    if ((decide (x1 = 0)) || (decide (40 < (((ix x0 x6_).Cond).length : Int)))) then
     100
    else
    LET (rec_ ((ix x0 x6_).Then) (wr (x1 - 1))) fun y111 =>
    LET (rec_ ((ix x0 x6_).Else) (wr (x1 - 1))) fun y114 =>
    oq x0 x1 rec_ K0 m (wr ((wr (x5_ + y111)) + y114)) (x6_ + 1)
   else
   K0 x5_
def qh (rec_ : (List aj) → Int → Int) (x0 : List aj) (x1 : Int) : Int :=
 oq x0 x1 rec_ (fun (x5_115 : Int) =>
  x5_115) (Int.toNat ((x0.length : Int) - 0)) (x0.length : Int) 0
def oc : Nat → (List aj) → Int → Int
 | 0, _, _ => default
 | n_ + 1, x0, x1 => qh (oc n_) x0 x1
def oo (x0 : List aj) (x1 : Int) : Int := oc (x1.toNat + 1) x0 x1
def ol (x0 : bg) (K0 : Unit → Bool) : Nat → Int → Bool
 | 0, x3_ => K0 ()
 | m + 1, x3_ =>
   if (decide (30 < (((ix x0.Fields x3_).Name).length : Int))) then
    false
   else
   ol x0 K0 m (x3_ + 1)
def qj (x0 : bg) : Bool :=
 if ((decide (30 < (x0.Name.length : Int))) || (decide (20 < (x0.Fields.length : Int)))) then
  false
 else
 ol x0 (fun (_ : Unit) =>
  true) (Int.toNat ((x0.Fields.length : Int) - 0)) 0
def lg (x0 : bc) (K0 : Unit → Bool) : Nat → Int → Bool
 | 0, x3_ => K0 ()
 | m + 1, x3_ =>
   if ((decide (40 < (((ix x0.Body x3_).Index).length : Int))) || (decide (40 < (((ix x0.Body x3_).Value).length : Int)))) then
    true
   else
   lg x0 K0 m (x3_ + 1)
def pv (x0 : bc) : Bool :=
 if (((decide (8 < (x0.Params.length : Int))) || (decide (16 < (x0.Body.length : Int)))) || (decide (60 < (x0.Name.length : Int)))) then
  true
 else
 lg x0 (fun (_ : Unit) =>
  false) (Int.toNat ((x0.Body.length : Int) - 0)) 0
def qc (x0 : bm) : Bool :=
 (((decide (8 < (x0.Extract.length : Int))) || (decide (12 < (x0.Cases.length : Int)))) || (decide (60 < (x0.Name.length : Int))))
def ja (x0 : ab) (K0 : Unit → Bool) : Nat → Int → Bool
 | 0, x3_ => K0 ()
 | m + 1, x3_ =>
   LET (qj (ix x0.Headers x3_)) fun y125 =>
   if (!y125) then
    true
   else
   ja x0 K0 m (x3_ + 1)
def jc (x0 : ab) (K2 : Unit → Bool) : Nat → Int → Bool
 | 0, x4_ => K2 ()
 | m + 1, x4_ =>
   LET (pv (ix x0.Actions x4_)) fun y134 =>
   if y134 then
    true
   else
   jc x0 K2 m (x4_ + 1)
def jv (x0 : ab) (K4 : Unit → Bool) : Nat → Int → Bool
 | 0, x5_ => K4 ()
 | m + 1, x5_ =>
   if ((((decide (10 < (((ix x0.Tables x5_).Keys).length : Int))) || (decide (24 < (((ix x0.Tables x5_).Actions).length : Int)))) || (decide (8 < ((((ix x0.Tables x5_).Default).Args).length : Int)))) || (decide (60 < (((ix x0.Tables x5_).Name).length : Int)))) then
    true
   else
   jv x0 K4 m (x5_ + 1)
def mz (x0 : ab) (K6 : Unit → Bool) : Nat → Int → Bool
 | 0, x6_ => K6 ()
 | m + 1, x6_ =>
   LET (qc (ix x0.States x6_)) fun y164 =>
   if y164 then
    true
   else
   mz x0 K6 m (x6_ + 1)
def mh (x0 : ab) : Bool :=
 if (((((((((decide (60 < (x0.Name.length : Int))) || (decide (16 < (x0.Headers.length : Int)))) || (decide (20 < (x0.Metadata.length : Int)))) || (decide (8 < (x0.Registers.length : Int)))) || (decide (24 < (x0.Actions.length : Int)))) || (decide (16 < (x0.Tables.length : Int)))) || (decide (16 < (x0.States.length : Int)))) || (decide (16 < (x0.Deparser.length : Int)))) || (decide (60 < (oo x0.Control 10)))) then
  true
 else
 ja x0 (fun (_ : Unit) =>
  jc x0 (fun (_ : Unit) =>
   jv x0 (fun (_ : Unit) =>
    mz x0 (fun (_ : Unit) =>
     false) (Int.toNat ((x0.States.length : Int) - 0)) 0) (Int.toNat ((x0.Tables.length : Int) - 0)) 0) (Int.toNat ((x0.Actions.length : Int) - 0)) 0) (Int.toNat ((x0.Headers.length : Int) - 0)) 0
def ri : Bool := true
def pg (x0 : Int) : Bool :=
 (!decide (x0 = x0))
def kb (x0 : Int) (x1 : Int) : Int :=
 LET (pg x0) fun y101 =>
 LET (pg x1) fun y102 =>
 if y101 then
  if y102 then
   0
  else
  (-1)
 else
 if y102 then
  1
 else
 if (decide (x0 < x1)) then
  (-1)
 else
 if (decide (x1 < x0)) then
  1
 else
 0
def ma (x0 : List Int) (K0 : Unit → Int) : Nat → Int → Int
 | 0, x8_ => K0 ()
 | m + 1, x8_ =>
   if (!decide ((ix x0 x8_) = 0)) then
    (ix x0 x8_)
   else
   ma x0 K0 m (x8_ + 1)
def px (x0 : List Int) : Int :=
 ma x0 (fun (_ : Unit) =>
  0) (Int.toNat ((x0.length : Int) - 0)) 0
def jt (x0 : aa) (x1 : aa) : Int :=
 LET (kb x0.Header x1.Header) fun y101 =>
 LET (kb x0.Field x1.Field) fun y102 =>
 LET (px ([y101, y102] : List Int)) fun y104 =>
 y104
def dx (x0 : aa) (x1 : aa) : Int :=
 LET (kb x0.Header x1.Header) fun y101 =>
 LET (kb x0.Field x1.Field) fun y102 =>
 LET (px ([y101, y102] : List Int)) fun y104 =>
 y104
def jn (l : List aa) : List aa := l.mergeSort fun x y => !decide (jt y x < 0)
def en (l : List aa) : List aa := l.mergeSort fun x y => !decide (dx y x < 0)
def ie (l : List aa) : List aa := cpt l
def ii (x0 : List ae) (K0 : (List aa) → (List aa)) : Nat → Int → (List aa) → (List aa)
 | 0, x8_, zE102 => K0 zE102
 | m + 1, x8_, zE102 =>
   if (decide (((ix x0 x8_).Op) = 2)) then
    ii x0 K0 m (x8_ + 1) (zE102 ++ ([({ Header := (ix x0 x8_).N, Field := (ix x0 x8_).W } : aa)] : List aa))
   else
   ii x0 K0 m (x8_ + 1) zE102
def kf (x0 : List ae) : (List aa) :=
 ii x0 (fun (zE102_112 : List aa) =>
  LET (jn zE102_112) fun y113 =>
  LET (ie y113) fun y115 =>
  y115) (Int.toNat ((x0.length : Int) - 0)) 0 ([] : List aa)
def di (l : List Int) : List Int := l.mergeSort fun x y => decide (x ≤ y)
def je (l : List Int) : List Int := cpt l
def gw (x0 : List ae) (K0 : (List Int) → (List Int)) : Nat → Int → (List Int) → (List Int)
 | 0, x8_, zE102 => K0 zE102
 | m + 1, x8_, zE102 =>
   if (decide (((ix x0 x8_).Op) = 4)) then
    gw x0 K0 m (x8_ + 1) (zE102 ++ ([(ix x0 x8_).N] : List Int))
   else
   gw x0 K0 m (x8_ + 1) zE102
def jh (x0 : List ae) : (List Int) :=
 gw x0 (fun (zE102_112 : List Int) =>
  LET (di zE102_112) fun y113 =>
  LET (je y113) fun y115 =>
  y115) (Int.toNat ((x0.length : Int) - 0)) 0 ([] : List Int)
def ff (x0 : Int) (c0 : ai) : ai :=
 if (decide (0 ≤ x0)) then
  ({ p := c0.p, cells := (c0.cells ++ ([x0] : List Int)) } : ai)
 else
 ({ p := c0.p, cells := c0.cells } : ai)
def js (x0 : ab) (K0 : (List Int) → (List Int)) : Nat → Int → (List Int) → (List Int)
 | 0, x19_, zE108 => K0 zE108
 | m + 1, x19_, zE108 =>
   js x0 K0 m (x19_ + 1) (zE108.set (0 : Int).toNat (wr ((ix zE108 (0 : Int)) + (((ix x0.Headers x19_).Fields).length : Int))))
def ky (x0 : ab) : (List Int) :=
 js x0 (fun (zE108_123 : List Int) =>
  zE108_123) (Int.toNat ((x0.Headers.length : Int) - 0)) 0 ([0, (x0.Headers.length : Int), (x0.Metadata.length : Int), (x0.Registers.length : Int)] : List Int)
def km (x1 : Int) (y101 : (List Int)) (K0 : Int → Int) : Nat → Int → Int → Int
 | 0, x5_, x10_ => K0 x5_
 | m + 1, x5_, x10_ =>
   if (decide (x10_ < x1)) then
    km x1 y101 K0 m (wr (x5_ + (ix y101 x10_))) (x10_ + 1)
   else
   km x1 y101 K0 m x5_ (x10_ + 1)
def mr (x0 : ab) (x1 : Int) : Int :=
 LET (ky x0) fun y101 =>
 km x1 y101 (fun (x5_107 : Int) =>
  x5_107) (Int.toNat (4 - 0)) 0 0
def oh (x0 : ab) (x1 : Int) (x2 : Int) : Int :=
 if ((decide (x2 < 0)) || (decide ((ix (ky x0) x1) ≤ x2))) then
  (-1)
 else
 LET (mr x0 x1) fun y106 =>
 (wr (y106 + x2))
def im (x0 : ab) (x1 : aa) (K0 : Int → Int) : Nat → Int → Int → Int
 | 0, x5_, x52_ => K0 x5_
 | m + 1, x5_, x52_ =>
   im x0 x1 K0 m (wr (x5_ + (((ix (sub x0.Headers 0 x1.Header) x52_).Fields).length : Int))) (x52_ + 1)
def il (x0 : ab) (x1 : aa) : Int :=
 if (decide (x1.Header = (-1))) then
  LET (oh x0 2 x1.Field) fun y102 =>
  y102
 else
 if ((((decide (x1.Header < 0)) || (decide ((x0.Headers.length : Int) ≤ x1.Header))) || (decide (x1.Field < 0))) || (decide ((((ix x0.Headers x1.Header).Fields).length : Int) ≤ x1.Field))) then
  (-1)
 else
 im x0 x1 (fun (x5_120 : Int) =>
  x5_120) (Int.toNat (((sub x0.Headers 0 x1.Header).length : Int) - 0)) x1.Field 0
def iy (x0 : ab) (x1 : Int) : Int :=
 LET (oh x0 1 x1) fun y101 =>
 y101
def gn (x0 : ab) (x1 : Int) : Int :=
 LET (oh x0 3 x1) fun y101 =>
 y101
def fd (x1 : List aa) (K0 : ai → ai) : Nat → Int → ai → ai
 | 0, x18_, zE1 => K0 zE1
 | m + 1, x18_, zE1 =>
   LET (il zE1.p (ix x1 x18_)) fun y107 =>
   LET (ff y107 ({ p := zE1.p, cells := zE1.cells } : ai)) fun y108 =>
   fd x1 K0 m (x18_ + 1) ({ p := y108.p, cells := y108.cells } : ai)
def fc (x2 : List Int) (K2 : ai → ai) : Nat → Int → ai → ai
 | 0, x33_, zE1 => K2 zE1
 | m + 1, x33_, zE1 =>
   LET (iy zE1.p (ix x2 x33_)) fun y114 =>
   LET (ff y114 ({ p := zE1.p, cells := zE1.cells } : ai)) fun y115 =>
   fc x2 K2 m (x33_ + 1) ({ p := y115.p, cells := y115.cells } : ai)
def fb (x3 : List Int) (K4 : ai → ai) : Nat → Int → ai → ai
 | 0, x48_, zE1 => K4 zE1
 | m + 1, x48_, zE1 =>
   LET (gn zE1.p (ix x3 x48_)) fun y121 =>
   LET (ff y121 ({ p := zE1.p, cells := zE1.cells } : ai)) fun y122 =>
   fb x3 K4 m (x48_ + 1) ({ p := y122.p, cells := y122.cells } : ai)
def ej (x0 : ai) (x1 : List aa) (x2 : List Int) (x3 : List Int) : ai :=
 fd x1 (fun (zE1_110 : ai) =>
  fc x2 (fun (zE1_117 : ai) =>
   fb x3 (fun (zE1_124 : ai) =>
    ({ p := zE1_124.p, cells := zE1_124.cells } : ai)) (Int.toNat ((x3.length : Int) - 0)) 0 ({ p := zE1_117.p, cells := zE1_117.cells } : ai)) (Int.toNat ((x2.length : Int) - 0)) 0 ({ p := zE1_110.p, cells := zE1_110.cells } : ai)) (Int.toNat ((x1.length : Int) - 0)) 0 ({ p := x0.p, cells := x0.cells } : ai)
def dv (x0 : ai) : (List Int) :=
 LET (di x0.cells) fun y101 =>
 LET (je y101) fun y103 =>
 y103
def fy (x0 : ab) (x1 : ct) : bh × Bool :=
 if ((decide (x1.Table < 0)) || (decide ((x0.Tables.length : Int) ≤ x1.Table))) then
  (({ Name := ([] : List UInt8), Keys := ([] : List ee), Actions := ([] : List Int), Default := ({ Action := 0, Args := ([] : List (BitVec 32)) } : fh), Size := 0 } : bh), false)
 else
 ((ix x0.Tables x1.Table), true)
def lh (x0 : UInt8) : Bool :=
 (((decide ((97 : UInt8) ≤ x0)) && (decide (x0 ≤ (122 : UInt8)))) || ((decide ((65 : UInt8) ≤ x0)) && (decide (x0 ≤ (90 : UInt8)))))
def lq (x0 : List UInt8) (x1 : UInt8 → Bool) (K0 : Int → Int) : Nat → Int → Int
 | 0, x5_ => K0 x5_
 | m + 1, x5_ =>
   if ((decide (x5_ < (x0.length : Int))) && (x1 (ix x0 x5_))) then
    lq x0 x1 K0 m (x5_ + 1)
   else
   K0 x5_
def qw (x0 : List UInt8) (x1 : UInt8 → Bool) : Int :=
 lq x0 x1 (fun (x5_107 : Int) =>
  x5_107) (Int.toNat ((x0.length : Int) - 0)) 0
def lz (x0 : UInt8) : Bool :=
 ((decide ((48 : UInt8) ≤ x0)) && (decide (x0 ≤ (57 : UInt8))))
def jp (x0 : UInt8) : Bool :=
 LET (lh x0) fun y101 =>
 ((y101 || (lz x0)) || (decide (x0 = (95 : UInt8))))
def jm (x0 : List UInt8) : Bool :=
 if (((decide ((x0.length : Int) = 0)) || (decide (16 < (x0.length : Int)))) || (!(lh (ix x0 0)))) then
  false
 else
 LET (qw x0 jp) fun y105 =>
 (decide (y105 = (x0.length : Int)))
def fi (x0 : ay) (c0 : ay) : Bool :=
 (decide (x0.Name = c0.Name))
def df (x0 : List ay) (x1 : ay → Bool) (K0 : Unit → Int) : Nat → Int → Int
 | 0, x8_ => K0 ()
 | m + 1, x8_ =>
   if (x1 (ix x0 x8_)) then
    x8_
   else
   df x0 x1 K0 m (x8_ + 1)
def gf (x0 : List ay) (x1 : ay → Bool) : Int :=
 df x0 x1 (fun (_ : Unit) =>
  (-1)) (Int.toNat ((x0.length : Int) - 0)) 0
def fq (x0 : List ay) (x1 : ay → Bool) : Bool :=
 LET (gf x0 x1) fun y101 =>
 (decide (0 ≤ y101))
def gk (x0 : bc) (K1 : Unit → Int) : Nat → Int → Int
 | 0, x24_ => K1 ()
 | m + 1, x24_ =>
   LET (jm ((ix x0.Params x24_).Name)) fun y114 =>
   if (!y114) then
    6
   else
   if ((decide (((ix x0.Params x24_).Width) < 1)) || (decide (32 < ((ix x0.Params x24_).Width)))) then
    10
   else
   LET (fq (sub x0.Params 0 x24_) (fun a_ => fi a_ (ix x0.Params x24_))) fun y122 =>
   if y122 then
    7
   else
   gk x0 K1 m (x24_ + 1)
def jl (x0 : bc) : Int :=
 LET (jm x0.Name) fun y101 =>
 if (!y101) then
  6
 else
 if ((decide (4 < (x0.Params.length : Int))) || (decide (12 < (x0.Body.length : Int)))) then
  12
 else
 gk x0 (fun (_ : Unit) =>
  0) (Int.toNat ((x0.Params.length : Int) - 0)) 0
def pd (x0 : ab) (x1 : aa) : Int × Bool :=
 LET (fun (x6_109 : List ay) =>
  if ((decide (x1.Field < 0)) || (decide ((x6_109.length : Int) ≤ x1.Field))) then
   (0, false)
  else
  ((ix x6_109 x1.Field).Width, true)) fun k109 =>
 if (!decide (x1.Header = (-1))) then
  if ((decide (x1.Header < 0)) || (decide ((x0.Headers.length : Int) ≤ x1.Header))) then
   (0, false)
  else
  k109 ((ix x0.Headers x1.Header).Fields)
 else
 k109 x0.Metadata
def du (x0 : Int) : Int :=
 LET (fun (x4_104 : Bool) =>
  if x4_104 then
   0
  else
  LET (fun (x9_109 : Bool) =>
   if x9_109 then
    1
   else
   LET (fun (x14_118 : Bool) =>
    if x14_118 then
     2
    else
    if (decide (x0 = 17)) then
     3
    else
    (-1)) fun k118 =>
   if (decide (x0 = 9)) then
    k118 (decide (x0 = 9))
   else
   if (decide (x0 = 10)) then
    k118 (decide (x0 = 10))
   else
   if (decide (x0 = 11)) then
    k118 (decide (x0 = 11))
   else
   if (decide (x0 = 12)) then
    k118 (decide (x0 = 12))
   else
   if (decide (x0 = 13)) then
    k118 (decide (x0 = 13))
   else
   if (decide (x0 = 14)) then
    k118 (decide (x0 = 14))
   else
   if (decide (x0 = 15)) then
    k118 (decide (x0 = 15))
   else
   k118 (decide (x0 = 16))) fun k109 =>
  if (decide (x0 = 5)) then
   k109 (decide (x0 = 5))
  else
  if (decide (x0 = 6)) then
   k109 (decide (x0 = 6))
  else
  if (decide (x0 = 7)) then
   k109 (decide (x0 = 7))
  else
  k109 (decide (x0 = 8))) fun k104 =>
 if (decide (x0 = 1)) then
  k104 (decide (x0 = 1))
 else
 if (decide (x0 = 2)) then
  k104 (decide (x0 = 2))
 else
 if (decide (x0 = 3)) then
  k104 (decide (x0 = 3))
 else
 k104 (decide (x0 = 4))
def mm (x0 : Int) : Int × Int :=
 if ((decide (x0 < 1)) || (decide (32 < x0))) then
  (0, 10)
 else
 (x0, 0)
def lp (x0 : List Int) (K0 : Unit → Bool) : Nat → Int → Bool
 | 0, x7_ => K0 ()
 | m + 1, x7_ =>
   if ((decide ((ix x0 x7_) < 1)) || (decide (32 < (ix x0 x7_)))) then
    false
   else
   lp x0 K0 m (x7_ + 1)
def oz (x0 : List Int) : Bool :=
 lp x0 (fun (_ : Unit) =>
  true) (Int.toNat ((x0.length : Int) - 0)) 0
def mu (x0 : Int) : (BitVec 32) :=
 LET (oz ([x0] : List Int)) fun y102 =>
 if (!y102) then
  0#32
 else
 (4294967295#32 >>> (wr (32 - x0)).toNat)
def kr (x0 : av) (x1 : Int) (x2 : Int) : ay × Bool :=
 LET (fun (x8_115 : List ay) =>
  if ((decide (x2 < 0)) || (decide ((x8_115.length : Int) ≤ x2))) then
   (({ Name := ([] : List UInt8), Width := 0 } : ay), false)
  else
  ((ix x8_115 x2), true)) fun k115 =>
 if (!decide (x1 = (-1))) then
  if ((decide (x1 < 0)) || (decide ((x0.Program.Headers.length : Int) ≤ x1))) then
   (({ Name := ([] : List UInt8), Width := 0 } : ay), false)
  else
  k115 ((ix x0.Program.Headers x1).Fields)
 else
 k115 x0.Program.Metadata
def ia (x0 : av) (x1 : ae) : Int × Int :=
 if (decide (x1.Op = 1)) then
  LET (mm x1.W) fun y102 =>
  if ((decide (y102.2 = 0)) && ((decide (x1.N < 0)) || (decide (((mu y102.1).toNat : Int) < x1.N)))) then
   (0, 9)
  else
  (y102.1, y102.2)
 else
 if (decide (x1.Op = 2)) then
  LET (kr x0 x1.N x1.W) fun y108 =>
  if (!y108.2) then
   (0, 8)
  else
  LET (mm y108.1.Width) fun y114 =>
  (y114.1, y114.2)
 else
 if (decide (x1.Op = 3)) then
  if ((decide (x1.N < 0)) || (decide ((x0.Params.length : Int) ≤ x1.N))) then
   (0, 8)
  else
  LET (mm ((ix x0.Params x1.N).Width)) fun y121 =>
  (y121.1, y121.2)
 else
 if ((decide (x1.N < 0)) || (decide ((x0.Program.Headers.length : Int) ≤ x1.N))) then
  (0, 8)
 else
 (1, 0)
def gg (x0 : ae) (x1 : List Int) : Int × Int :=
 LET (fun (x10_102 : Bool) =>
  if x10_102 then
   if ((decide (x0.N < 0)) || (decide (31 < x0.N))) then
    (0, 9)
   else
   LET (du x0.Op) fun y106 =>
   if ((decide (y106 = 2)) && (!decide ((ix x1 0) = (ix x1 1)))) then
    (0, 10)
   else
   if ((decide (x0.Op = 15)) || (decide (x0.Op = 16))) then
    (1, 0)
   else
   ((ix x1 0), 0)
  else
  if (decide (x0.Op = 8)) then
   if (decide (x0.N < 0)) then
    (0, 9)
   else
   LET (mm x0.W) fun y116 =>
   if ((!decide (y116.2 = 0)) || (decide ((wr ((ix x1 0) - x0.W)) < x0.N))) then
    (0, 10)
   else
   (x0.W, 0)
  else
  if (decide (x0.Op = 14)) then
   LET (mm (wr ((ix x1 0) + (ix x1 1)))) fun y123 =>
   (y123.1, y123.2)
  else
  if (decide (x0.Op = 17)) then
   if ((!decide ((ix x1 0) = 1)) || (!decide ((ix x1 1) = (ix x1 2)))) then
    (0, 10)
   else
   ((ix x1 1), 0)
  else
  LET (du x0.Op) fun y131 =>
  if ((decide (y131 = 2)) && (!decide ((ix x1 0) = (ix x1 1)))) then
   (0, 10)
  else
  if ((decide (x0.Op = 15)) || (decide (x0.Op = 16))) then
   (1, 0)
  else
  ((ix x1 0), 0)) fun k102 =>
 if (decide (x0.Op = 6)) then
  k102 (decide (x0.Op = 6))
 else
 k102 (decide (x0.Op = 7))
def cz (x0 : av) (x1 : List ae) (rec_ : av → (List ae) → Int → (Int × Int × Int)) (K1 : Int → (List Int) → (Int × Int × Int)) : Nat → Int → Int → (List Int) → (Int × Int × Int)
 | 0, x7_, x44_, zE109 => K1 x7_ zE109
 | m + 1, x7_, x44_, zE109 =>
   LET (rec_ x0 x1 x7_) fun y112 =>
   if (!decide (y112.2.2 = 0)) then
    (0, 0, y112.2.2)
   else
   cz x0 x1 rec_ K1 m y112.2.1 (x44_ + 1) (zE109.set x44_.toNat y112.1)
def dm (rec_ : av → (List ae) → Int → (Int × Int × Int)) (x0 : av) (x1 : List ae) (x2 : Int) : Int × Int × Int :=
 if (decide ((x1.length : Int) ≤ x2)) then
  (0, 0, 3)
 else
 LET (du ((ix x1 x2).Op)) fun y103 =>
 if (decide (y103 < 0)) then
  (0, 0, 11)
 else
 if (decide (y103 = 0)) then
  LET (ia x0 (ix x1 x2)) fun y107 =>
  (y107.1, (wr (x2 + 1)), y107.2)
 else
 cz x0 x1 rec_ (fun (x7_116 : Int) (zE109_116 : List Int) =>
  LET (gg (ix x1 x2) zE109_116) fun y118 =>
  (y118.1, x7_116, y118.2)) (Int.toNat (y103 - 0)) (wr (x2 + 1)) 0 ([0, 0, 0] : List Int)
def da : Nat → av → (List ae) → Int → (Int × Int × Int)
 | 0, x0, x1, x2 => (0, 0, 1)
 | n_ + 1, x0, x1, x2 => dm (da n_) x0 x1 x2
def cw (x0 : av) (x1 : List ae) (x2 : Int) : Int × Int × Int := da ((x1.length - x2.toNat) + 1) x0 x1 x2
def nd (x0 : List ae) (x1 : av) : Int × Int :=
 if (decide (24 < (x0.length : Int))) then
  (0, 12)
 else
 LET (cw x1 x0 0) fun y102 =>
 if (!decide (y102.2.2 = 0)) then
  (0, y102.2.2)
 else
 if (decide (y102.2.1 < (x0.length : Int))) then
  (0, 4)
 else
 (y102.1, 0)
def gh (x0 : db) (x1 : List ae) (x2 : Int) : Int :=
 LET (nd x1 x0.scope) fun y102 =>
 if ((decide (y102.2 = 0)) && (!decide (y102.1 = x2))) then
  10
 else
 y102.2
def dw (x0 : db) (x1 : aq) : Int :=
 LET (pd x0.scope.Program x1.Dst) fun y107 =>
 if (decide (x1.Kind = 1)) then
  if (!y107.2) then
   8
  else
  LET (gh x0 x1.Value y107.1) fun y113 =>
  y113
 else
 LET (fun (x43_115 : Bool) =>
  if x43_115 then
   if ((decide (x1.Header < 0)) || (decide ((x0.scope.Program.Headers.length : Int) ≤ x1.Header))) then
    8
   else
   0
  else
  LET (fun (x57_121 : Bool) =>
   if x57_121 then
    if ((!((decide (0 ≤ x1.Register)) && (decide (x1.Register < (x0.scope.Program.Registers.length : Int))))) || ((decide (x1.Kind = 4)) && (!y107.2))) then
     8
    else
    LET (nd x1.Index x0.scope) fun y128 =>
    if (!decide (y128.2 = 0)) then
     y128.2
    else
    if (decide (x1.Kind = 5)) then
     LET (gh x0 x1.Value ((ix x0.scope.Program.Registers x1.Register).Width)) fun y134 =>
     y134
    else
    if (!decide (y107.1 = ((ix x0.scope.Program.Registers x1.Register).Width))) then
     10
    else
    0
   else
   11) fun k121 =>
  if (decide (x1.Kind = 4)) then
   k121 (decide (x1.Kind = 4))
  else
  k121 (decide (x1.Kind = 5))) fun k115 =>
 if (decide (x1.Kind = 2)) then
  k115 (decide (x1.Kind = 2))
 else
 k115 (decide (x1.Kind = 3))
def jk (x0 : ab) (x1 : Int) (K0 : Unit → (Int × Int)) : Nat → Int → (Int × Int)
 | 0, x37_ => K0 ()
 | m + 1, x37_ =>
   LET (dw ({ scope := ({ Program := x0, Params := (ix x0.Actions x1).Params } : av) } : db) (ix ((ix x0.Actions x1).Body) x37_)) fun y124 =>
   if (!decide (y124 = 0)) then
    (x37_, y124)
   else
   jk x0 x1 K0 m (x37_ + 1)
def lb (x0 : ab) (x1 : Int) : Int × Int :=
 if ((decide (x1 < 0)) || (decide ((x0.Actions.length : Int) ≤ x1))) then
  ((-1), 8)
 else
 LET (jl (ix x0.Actions x1)) fun y109 =>
 if (!decide (y109 = 0)) then
  ((-1), y109)
 else
 jk x0 x1 (fun (_ : Unit) =>
  (0, 0)) (Int.toNat ((((ix x0.Actions x1).Body).length : Int) - 0)) 0
def iz (x0 : ab) (x1 : Int) : (List aq) :=
 LET (lb x0 x1) fun y101 =>
 if (!decide (y101.2 = 0)) then
  ([] : List aq)
 else
 (ix x0.Actions x1).Body
def dg (x0 : bq) (x1 : List ae) : bq :=
 LET (kf x1) fun y101 =>
 LET (jh x1) fun y105 =>
 ({ fields := (x0.fields ++ y101), headers := (x0.headers ++ y105), registers := x0.registers } : bq)
def cm (x0 : bq) : (List aa) × (List Int) × (List Int) :=
 LET (en x0.fields) fun y102 =>
 LET (di x0.headers) fun y104 =>
 LET (di x0.registers) fun y106 =>
 LET (ie y102) fun y108 =>
 LET (je y104) fun y111 =>
 LET (je y106) fun y114 =>
 (y108, y111, y114)
def ft (y103 : (List aq)) (K0 : bq → ((List aa) × (List Int) × (List Int))) : Nat → Int → bq → ((List aa) × (List Int) × (List Int))
 | 0, x14_, zE102 => K0 zE102
 | m + 1, x14_, zE102 =>
   LET (fun (zE102_143 : bq) =>
    if (((decide (((ix y103 x14_).Kind) = 1)) || (decide (((ix y103 x14_).Kind) = 4))) && (!decide ((((ix y103 x14_).Dst).Header) = (-1)))) then
     ft y103 K0 m (x14_ + 1) ({ fields := zE102_143.fields, headers := (zE102_143.headers ++ ([((ix y103 x14_).Dst).Header] : List Int)), registers := zE102_143.registers } : bq)
    else
    ft y103 K0 m (x14_ + 1) ({ fields := zE102_143.fields, headers := zE102_143.headers, registers := zE102_143.registers } : bq)) fun k143 =>
   if (decide (((ix y103 x14_).Kind) = 1)) then
    LET (dg ({ fields := zE102.fields, headers := zE102.headers, registers := zE102.registers } : bq) ((ix y103 x14_).Value)) fun y155 =>
    k143 ({ fields := y155.fields, headers := y155.headers, registers := y155.registers } : bq)
   else
   if (decide (((ix y103 x14_).Kind) = 2)) then
    k143 ({ fields := zE102.fields, headers := (zE102.headers ++ ([(ix y103 x14_).Header] : List Int)), registers := zE102.registers } : bq)
   else
   if (decide (((ix y103 x14_).Kind) = 4)) then
    LET (dg ({ fields := zE102.fields, headers := zE102.headers, registers := zE102.registers } : bq) ((ix y103 x14_).Index)) fun y165 =>
    k143 ({ fields := y165.fields, headers := y165.headers, registers := (y165.registers ++ ([(ix y103 x14_).Register] : List Int)) } : bq)
   else
   if (decide (((ix y103 x14_).Kind) = 5)) then
    LET (dg ({ fields := zE102.fields, headers := zE102.headers, registers := zE102.registers } : bq) ((ix y103 x14_).Index)) fun y174 =>
    LET (dg ({ fields := y174.fields, headers := y174.headers, registers := y174.registers } : bq) ((ix y103 x14_).Value)) fun y178 =>
    k143 ({ fields := y178.fields, headers := y178.headers, registers := y178.registers } : bq)
   else
   k143 ({ fields := zE102.fields, headers := zE102.headers, registers := zE102.registers } : bq)
def gm (x0 : ab) (x1 : Int) : (List aa) × (List Int) × (List Int) :=
 LET (iz x0 x1) fun y103 =>
 ft y103 (fun (zE102_181 : bq) =>
  LET (cm ({ fields := zE102_181.fields, headers := zE102_181.headers, registers := zE102_181.registers } : bq)) fun y182 =>
  (y182.1, y182.2.1, y182.2.2)) (Int.toNat ((y103.length : Int) - 0)) 0 ({ fields := ([] : List aa), headers := ([] : List Int), registers := ([] : List Int) } : bq)
def kj (y119 : bh × Bool) (K0 : ai → (List Int)) : Nat → Int → ai → (List Int)
 | 0, x39_, zE103 => K0 zE103
 | m + 1, x39_, zE103 =>
   LET (ej ({ p := zE103.p, cells := zE103.cells } : ai) ([(ix y119.1.Keys x39_).Field] : List aa) ([] : List Int) ([] : List Int)) fun y139 =>
   kj y119 K0 m (x39_ + 1) ({ p := y139.p, cells := y139.cells } : ai)
def jg (x0 : ab) (y119 : bh × Bool) (K2 : ai → (List Int)) : Nat → Int → ai → (List Int)
 | 0, x52_, zE103 => K2 zE103
 | m + 1, x52_, zE103 =>
   LET (gm x0 (ix y119.1.Actions x52_)) fun y150 =>
   LET (ej ({ p := zE103.p, cells := zE103.cells } : ai) y150.1 y150.2.1 y150.2.2) fun y154 =>
   jg x0 y119 K2 m (x52_ + 1) ({ p := y154.p, cells := y154.cells } : ai)
def pw (x0 : ab) (x1 : ct) : (List Int) :=
 if (decide (x1.Table = (-1))) then
  LET (kf x1.Cond) fun y106 =>
  LET (jh x1.Cond) fun y109 =>
  LET (ej ({ p := x0, cells := ([] : List Int) } : ai) y106 y109 ([] : List Int)) fun y111 =>
  LET (dv ({ p := y111.p, cells := y111.cells } : ai)) fun y115 =>
  y115
 else
 LET (fy x0 x1) fun y119 =>
 if (!y119.2) then
  ([] : List Int)
 else
 kj y119 (fun (zE103_142 : ai) =>
  jg x0 y119 (fun (zE103_157 : ai) =>
   LET (dv ({ p := zE103_157.p, cells := zE103_157.cells } : ai)) fun y158 =>
   y158) (Int.toNat ((y119.1.Actions.length : Int) - 0)) 0 ({ p := zE103_142.p, cells := zE103_142.cells } : ai)) (Int.toNat ((y119.1.Keys.length : Int) - 0)) 0 ({ p := x0, cells := ([] : List Int) } : ai)
def ip (x0 : aa) (x1 : aa) : Bool :=
 ((decide (x0.Header < x1.Header)) || ((decide (x0.Header = x1.Header)) && (decide (x0.Field < x1.Field))))
def fe (x0 : List aa) (x1 : aa) (K0 : Bool → (List aa) → (List aa)) : Nat → Bool → Int → (List aa) → (List aa)
 | 0, x6_, x7_, zE102 => K0 x6_ zE102
 | m + 1, x6_, x7_, zE102 =>
   if ((!x6_) && (!(ip (ix x0 x7_) x1))) then
    if (!decide ((ix x0 x7_) = x1)) then
     fe x0 x1 K0 m true (x7_ + 1) ((zE102 ++ ([x1] : List aa)) ++ ([(ix x0 x7_)] : List aa))
    else
    fe x0 x1 K0 m true (x7_ + 1) (zE102 ++ ([(ix x0 x7_)] : List aa))
   else
   fe x0 x1 K0 m x6_ (x7_ + 1) (zE102 ++ ([(ix x0 x7_)] : List aa))
def jf (x0 : List aa) (x1 : aa) : (List aa) :=
 fe x0 x1 (fun (x6_122 : Bool) (zE102_122 : List aa) =>
  if (!x6_122) then
   (zE102_122 ++ ([x1] : List aa))
  else
  zE102_122) (Int.toNat ((x0.length : Int) - 0)) false 0 ([] : List aa)
def ji (x0 : List ae) (K0 : (List aa) → (List aa)) : Nat → (List aa) → Int → (List aa)
 | 0, x3_, x4_ => K0 x3_
 | m + 1, x3_, x4_ =>
   if (decide (((ix x0 x4_).Op) = 2)) then
    LET (jf x3_ ({ Header := (ix x0 x4_).N, Field := (ix x0 x4_).W } : aa)) fun y107 =>
    ji x0 K0 m y107 (x4_ + 1)
   else
   ji x0 K0 m x3_ (x4_ + 1)
def lw (x0 : List ae) : (List aa) :=
 ji x0 (fun (x3_109 : List aa) =>
  x3_109) (Int.toNat ((x0.length : Int) - 0)) ([] : List aa) 0
def ga (x0 : List Int) (x1 : Int) (K0 : Bool → (List Int) → (List Int)) : Nat → Bool → Int → (List Int) → (List Int)
 | 0, x6_, x7_, zE102 => K0 x6_ zE102
 | m + 1, x6_, x7_, zE102 =>
   if ((!x6_) && (decide (x1 ≤ (ix x0 x7_)))) then
    if (!decide ((ix x0 x7_) = x1)) then
     ga x0 x1 K0 m true (x7_ + 1) ((zE102 ++ ([x1] : List Int)) ++ ([(ix x0 x7_)] : List Int))
    else
    ga x0 x1 K0 m true (x7_ + 1) (zE102 ++ ([(ix x0 x7_)] : List Int))
   else
   ga x0 x1 K0 m x6_ (x7_ + 1) (zE102 ++ ([(ix x0 x7_)] : List Int))
def gb (x0 : List Int) (x1 : Int) : (List Int) :=
 ga x0 x1 (fun (x6_116 : Bool) (zE102_116 : List Int) =>
  if (!x6_116) then
   (zE102_116 ++ ([x1] : List Int))
  else
  zE102_116) (Int.toNat ((x0.length : Int) - 0)) false 0 ([] : List Int)
def iw (x0 : List ae) (K0 : (List Int) → (List Int)) : Nat → (List Int) → Int → (List Int)
 | 0, x3_, x4_ => K0 x3_
 | m + 1, x3_, x4_ =>
   if (decide (((ix x0 x4_).Op) = 4)) then
    LET (gb x3_ ((ix x0 x4_).N)) fun y106 =>
    iw x0 K0 m y106 (x4_ + 1)
   else
   iw x0 K0 m x3_ (x4_ + 1)
def kv (x0 : List ae) : (List Int) :=
 iw x0 (fun (x3_108 : List Int) =>
  x3_108) (Int.toNat ((x0.length : Int) - 0)) ([] : List Int) 0
def ka (x0 : ab) (K0 : Int → Int) : Nat → Int → Int → Int
 | 0, x5_, x6_ => K0 x5_
 | m + 1, x5_, x6_ =>
   ka x0 K0 m (wr (x5_ + (((ix x0.Headers x6_).Fields).length : Int))) (x6_ + 1)
def lx (x0 : ab) (x1 : Int) : Int :=
 ka x0 (fun (x5_106 : Int) =>
  x5_106) (Int.toNat (x1 - 0)) 0 0
def er (x0 : ab) (x1 : aa) : Int :=
 if (((decide (x1.Header = (-1))) && (decide (0 ≤ x1.Field))) && (decide (x1.Field < (x0.Metadata.length : Int)))) then
  LET (lx x0 (x0.Headers.length : Int)) fun y106 =>
  (wr ((wr (y106 + (x0.Headers.length : Int))) + x1.Field))
 else
 if ((((decide (x1.Header < 0)) || (decide ((x0.Headers.length : Int) ≤ x1.Header))) || (decide (x1.Field < 0))) || (decide ((((ix x0.Headers x1.Header).Fields).length : Int) ≤ x1.Field))) then
  (-1)
 else
 LET (lx x0 x1.Header) fun y116 =>
 (wr (y116 + x1.Field))
def ke (x0 : List Int) (x1 : Int) (K0 : Int → (List Int)) : Nat → Int → (List Int)
 | 0, x5_ => K0 x5_
 | m + 1, x5_ =>
   if ((decide (x5_ < (x0.length : Int))) && (decide ((ix x0 x5_) < x1))) then
    ke x0 x1 K0 m (x5_ + 1)
   else
   K0 x5_
def kx (x0 : List Int) (x1 : Int) : (List Int) :=
 ke x0 x1 (fun (x5_105 : Int) =>
  if ((decide (x1 < 0)) || ((decide (x5_105 < (x0.length : Int))) && (decide ((ix x0 x5_105) = x1)))) then
   x0
  else
  (((sub x0 0 x5_105) ++ ([x1] : List Int)) ++ (sub x0 x5_105 (x0.length : Int)))) (Int.toNat ((x0.length : Int) - 0)) 0
def gv (x0 : ab) (x1 : Int) : Int :=
 if ((decide (x1 < 0)) || (decide ((x0.Headers.length : Int) ≤ x1))) then
  (-1)
 else
 LET (lx x0 (x0.Headers.length : Int)) fun y105 =>
 (wr (y105 + x1))
def gi (x0 : ab) (x1 : Int) : Int :=
 if ((decide (x1 < 0)) || (decide ((x0.Registers.length : Int) ≤ x1))) then
  (-1)
 else
 LET (lx x0 (x0.Headers.length : Int)) fun y105 =>
 (wr ((wr ((wr (y105 + (x0.Headers.length : Int))) + (x0.Metadata.length : Int))) + x1))
def jz (x0 : ab) (x2 : List aa) (K0 : (List Int) → (List Int)) : Nat → (List Int) → Int → (List Int)
 | 0, x1_, x11_ => K0 x1_
 | m + 1, x1_, x11_ =>
   LET (er x0 (ix x2 x11_)) fun y104 =>
   LET (kx x1_ y104) fun y105 =>
   jz x0 x2 K0 m y105 (x11_ + 1)
def ko (x0 : ab) (x3 : List Int) (K2 : (List Int) → (List Int)) : Nat → (List Int) → Int → (List Int)
 | 0, x1_, x12_ => K2 x1_
 | m + 1, x1_, x12_ =>
   LET (gv x0 (ix x3 x12_)) fun y110 =>
   LET (kx x1_ y110) fun y111 =>
   ko x0 x3 K2 m y111 (x12_ + 1)
def kh (x0 : ab) (x4 : List Int) (K4 : (List Int) → (List Int)) : Nat → (List Int) → Int → (List Int)
 | 0, x1_, x13_ => K4 x1_
 | m + 1, x1_, x13_ =>
   LET (gi x0 (ix x4 x13_)) fun y116 =>
   LET (kx x1_ y116) fun y117 =>
   kh x0 x4 K4 m y117 (x13_ + 1)
def lv (x0 : ab) (x1 : List Int) (x2 : List aa) (x3 : List Int) (x4 : List Int) : (List Int) :=
 jz x0 x2 (fun (x1_107 : List Int) =>
  ko x0 x3 (fun (x1_113 : List Int) =>
   kh x0 x4 (fun (x1_119 : List Int) =>
    x1_119) (Int.toNat ((x4.length : Int) - 0)) x1_113 0) (Int.toNat ((x3.length : Int) - 0)) x1_107 0) (Int.toNat ((x2.length : Int) - 0)) x1 0
def na (x0 : UInt8) : Bool :=
 (((decide ((97 : UInt8) ≤ x0)) && (decide (x0 ≤ (122 : UInt8)))) || ((decide ((65 : UInt8) ≤ x0)) && (decide (x0 ≤ (90 : UInt8)))))
def ot (x0 : UInt8) : Bool :=
 ((decide ((48 : UInt8) ≤ x0)) && (decide (x0 ≤ (57 : UInt8))))
def io (x0 : List UInt8) (K0 : Unit → Bool) : Nat → Int → Bool
 | 0, x3_ => K0 ()
 | m + 1, x3_ =>
   LET (na (ix x0 x3_)) fun y107 =>
   if (((!y107) && (!(ot (ix x0 x3_)))) && (!decide ((ix x0 x3_) = (95 : UInt8)))) then
    false
   else
   io x0 K0 m (x3_ + 1)
def ir (x0 : List UInt8) : Bool :=
 if (((decide (x0 = ([] : List UInt8))) || (decide (16 < (x0.length : Int)))) || (!(na (ix x0 0)))) then
  false
 else
 io x0 (fun (_ : Unit) =>
  true) (Int.toNat ((x0.length : Int) - 0)) 0
def kg (x0 : List ay) (x3_ : Int) (K3 : Unit → Int) : Nat → Int → Int
 | 0, x4_ => K3 ()
 | m + 1, x4_ =>
   if (decide (((ix x0 x4_).Name) = ((ix x0 x3_).Name))) then
    7
   else
   kg x0 x3_ K3 m (x4_ + 1)
def ki (x0 : List ay) (K0 : Unit → Int) : Nat → Int → Int
 | 0, x3_ => K0 ()
 | m + 1, x3_ =>
   LET (ir ((ix x0 x3_).Name)) fun y104 =>
   if (!y104) then
    6
   else
   if ((decide (((ix x0 x3_).Width) < 1)) || (decide (32 < ((ix x0 x3_).Width)))) then
    10
   else
   kg x0 x3_ (fun (_ : Unit) =>
    ki x0 K0 m (x3_ + 1)) (Int.toNat (x3_ - 0)) 0
def pb (x0 : List ay) : Int :=
 ki x0 (fun (_ : Unit) =>
  0) (Int.toNat ((x0.length : Int) - 0)) 0
def qo (x0 : ab) (x1 : Int) : av :=
 ({ Program := x0, Params := (ix x0.Actions x1).Params } : av)
def mi (x0 : ab) (x1 : aa) : Int × Bool :=
 LET (fun (x6_109 : List ay) =>
  if ((decide (x1.Field < 0)) || (decide ((x6_109.length : Int) ≤ x1.Field))) then
   (0, false)
  else
  ((ix x6_109 x1.Field).Width, true)) fun k109 =>
 if (!decide (x1.Header = (-1))) then
  if ((decide (x1.Header < 0)) || (decide ((x0.Headers.length : Int) ≤ x1.Header))) then
   (0, false)
  else
  k109 ((ix x0.Headers x1.Header).Fields)
 else
 k109 x0.Metadata
def lj (x0 : Int) : Int :=
 if ((decide (1 ≤ x0)) && (decide (x0 ≤ 4))) then
  0
 else
 if ((decide (5 ≤ x0)) && (decide (x0 ≤ 8))) then
  1
 else
 if ((decide (9 ≤ x0)) && (decide (x0 ≤ 16))) then
  2
 else
 if (decide (x0 = 17)) then
  3
 else
 (-1)
def ow (x0 : Int) : Int × Int :=
 if ((decide (x0 < 1)) || (decide (32 < x0))) then
  (0, 10)
 else
 (x0, 0)
def pk (x0 : Int) : Bool :=
 ((decide (1 ≤ x0)) && (decide (x0 ≤ 32)))
def oe (K0 : (BitVec 64) → (BitVec 64)) : Nat → (BitVec 64) → Int → (BitVec 64)
 | 0, x3_, x4_ => K0 x3_
 | m + 1, x3_, x4_ =>
   oe K0 m (2#64 * x3_) (x4_ + 1)
def tm (x0 : Int) : (BitVec 64) :=
 oe (fun (x3_103 : BitVec 64) =>
  x3_103) (Int.toNat (x0 - 0)) 1#64 0
def nu (x0 : Int) : (BitVec 32) :=
 LET (pk x0) fun y101 =>
 if (!y101) then
  0#32
 else
 LET (tm x0) fun y103 =>
 (BitVec.setWidth 32 (y103 - 1#64))
def qf (x0 : ae) (x1 : av) : Int × Int :=
 if (decide (x0.Op = 1)) then
  LET (ow x0.W) fun y102 =>
  if ((decide (y102.2 = 0)) && ((decide (x0.N < 0)) || (decide (((nu y102.1).toNat : Int) < x0.N)))) then
   (0, 9)
  else
  (y102.1, y102.2)
 else
 if (decide (x0.Op = 2)) then
  LET (mi x1.Program ({ Header := x0.N, Field := x0.W } : aa)) fun y109 =>
  if (!y109.2) then
   (0, 8)
  else
  LET (ow y109.1) fun y111 =>
  (y111.1, y111.2)
 else
 if (decide (x0.Op = 3)) then
  if ((decide (x0.N < 0)) || (decide ((x1.Params.length : Int) ≤ x0.N))) then
   (0, 8)
  else
  LET (ow ((ix x1.Params x0.N).Width)) fun y118 =>
  (y118.1, y118.2)
 else
 if ((decide (x0.N < 0)) || (decide ((x1.Program.Headers.length : Int) ≤ x0.N))) then
  (0, 8)
 else
 (1, 0)
def ig (x0 : ae) (x1 : List Int) : Int × Int :=
 if (decide (x0.Op = 5)) then
  ((ix x1 0), 0)
 else
 LET (fun (x13_103 : Bool) =>
  if x13_103 then
   if ((decide (x0.N < 0)) || (decide (31 < x0.N))) then
    (0, 9)
   else
   ((ix x1 0), 0)
  else
  if (decide (x0.Op = 8)) then
   if (decide (x0.N < 0)) then
    (0, 9)
   else
   if (((decide (x0.W < 1)) || (decide (32 < x0.W))) || (decide ((wr ((ix x1 0) - x0.W)) < x0.N))) then
    (0, 10)
   else
   (x0.W, 0)
  else
  if (decide (x0.Op = 14)) then
   LET (ow (wr ((ix x1 0) + (ix x1 1)))) fun y113 =>
   (y113.1, y113.2)
  else
  if (decide (x0.Op = 17)) then
   if ((!decide ((ix x1 0) = 1)) || (!decide ((ix x1 1) = (ix x1 2)))) then
    (0, 10)
   else
   ((ix x1 1), 0)
  else
  if (!decide ((ix x1 0) = (ix x1 1))) then
   (0, 10)
  else
  if ((decide (x0.Op = 15)) || (decide (x0.Op = 16))) then
   (1, 0)
  else
  ((ix x1 0), 0)) fun k103 =>
 if (decide (x0.Op = 6)) then
  k103 (decide (x0.Op = 6))
 else
 k103 (decide (x0.Op = 7))
def lk (x0 : List ae) (x2 : av) (rec_ : (List ae) → Int → av → (Int × Int × Int)) (K0 : Int → (List Int) → (Int × Int × Int)) : Nat → Int → Int → (List Int) → (Int × Int × Int)
 | 0, x13_, x14_, zE109 => K0 x13_ zE109
 | m + 1, x13_, x14_, zE109 =>
   LET (rec_ x0 x13_ x2) fun y112 =>
   if (!decide (y112.2.2 = 0)) then
    (0, y112.2.1, y112.2.2)
   else
   lk x0 x2 rec_ K0 m y112.2.1 (x14_ + 1) (zE109 ++ ([y112.1] : List Int))
def nb (rec_ : (List ae) → Int → av → (Int × Int × Int)) (x0 : List ae) (x1 : Int) (x2 : av) : Int × Int × Int :=
 if (decide ((x0.length : Int) ≤ x1)) then
  (0, x1, 3)
 else
 LET (lj ((ix x0 x1).Op)) fun y103 =>
 if (decide (y103 < 0)) then
  (0, x1, 11)
 else
 if (decide (y103 = 0)) then
  LET (qf (ix x0 x1) x2) fun y107 =>
  (y107.1, (wr (x1 + 1)), y107.2)
 else
 lk x0 x2 rec_ (fun (x13_116 : Int) (zE109_116 : List Int) =>
  LET (ig (ix x0 x1) zE109_116) fun y118 =>
  (y118.1, x13_116, y118.2)) (Int.toNat (y103 - 0)) (wr (x1 + 1)) 0 ([] : List Int)
def ik : Nat → (List ae) → Int → av → (Int × Int × Int)
 | 0, x0, x1, x2 => (0, 0, 1)
 | n_ + 1, x0, x1, x2 => nb (ik n_) x0 x1 x2
def qm (x0 : List ae) (x1 : Int) (x2 : av) : Int × Int × Int := ik ((x0.length - x1.toNat) + 1) x0 x1 x2
def nl (x0 : List ae) (x1 : av) : Int × Int :=
 if (decide (24 < (x0.length : Int))) then
  (0, 12)
 else
 LET (qm x0 0 x1) fun y102 =>
 if (!decide (y102.2.2 = 0)) then
  (0, y102.2.2)
 else
 if (decide (y102.2.1 < (x0.length : Int))) then
  (0, 4)
 else
 (y102.1, 0)
def pm (x0 : List ae) (x1 : av) (x2 : Int) : Int :=
 LET (nl x0 x1) fun y101 =>
 if ((decide (y101.2 = 0)) && (!decide (y101.1 = x2))) then
  10
 else
 y101.2
def ob (x0 : ab) (x1 : aq) (x2 : av) : Int :=
 LET (mi x0 x1.Dst) fun y102 =>
 if (decide (x1.Kind = 1)) then
  if (!y102.2) then
   8
  else
  LET (pm x1.Value x2 y102.1) fun y108 =>
  y108
 else
 LET (fun (x43_110 : Bool) =>
  if x43_110 then
   if ((decide (x1.Header < 0)) || (decide ((x0.Headers.length : Int) ≤ x1.Header))) then
    8
   else
   0
  else
  if (decide (x1.Kind = 4)) then
   if ((!y102.2) || (!((decide (0 ≤ x1.Register)) && (decide (x1.Register < (x0.Registers.length : Int)))))) then
    8
   else
   LET (nl x1.Index x2) fun y119 =>
   if ((decide (y119.2 = 0)) && (!decide (y102.1 = ((ix x0.Registers x1.Register).Width)))) then
    10
   else
   y119.2
  else
  if (decide (x1.Kind = 5)) then
   if (!((decide (0 ≤ x1.Register)) && (decide (x1.Register < (x0.Registers.length : Int))))) then
    8
   else
   LET (nl x1.Index x2) fun y127 =>
   if (!decide (y127.2 = 0)) then
    y127.2
   else
   LET (pm x1.Value x2 ((ix x0.Registers x1.Register).Width)) fun y132 =>
   y132
  else
  11) fun k110 =>
 if (decide (x1.Kind = 2)) then
  k110 (decide (x1.Kind = 2))
 else
 k110 (decide (x1.Kind = 3))
def mj (x0 : ab) (x1 : Int) (K1 : Unit → (Int × Int)) : Nat → Int → (Int × Int)
 | 0, x7_ => K1 ()
 | m + 1, x7_ =>
   LET (qo x0 x1) fun y126 =>
   LET (ob x0 (ix ((ix x0.Actions x1).Body) x7_) y126) fun y128 =>
   if (!decide (y128 = 0)) then
    (x7_, y128)
   else
   mj x0 x1 K1 m (x7_ + 1)
def li (x0 : ab) (x1 : Int) : Int × Int :=
 if ((decide (x1 < 0)) || (decide ((x0.Actions.length : Int) ≤ x1))) then
  ((-1), 8)
 else
 LET (ir ((ix x0.Actions x1).Name)) fun y109 =>
 if (!y109) then
  ((-1), 6)
 else
 if ((decide (4 < (((ix x0.Actions x1).Params).length : Int))) || (decide (12 < (((ix x0.Actions x1).Body).length : Int)))) then
  ((-1), 12)
 else
 LET (pb ((ix x0.Actions x1).Params)) fun y116 =>
 if (!decide (y116 = 0)) then
  LET (pb ((ix x0.Actions x1).Params)) fun y119 =>
  ((-1), y119)
 else
 mj x0 x1 (fun (_ : Unit) =>
  (0, 0)) (Int.toNat ((((ix x0.Actions x1).Body).length : Int) - 0)) 0
def jr (y105 : (List aa)) (K0 : am → am) : Nat → Int → am → am
 | 0, x7_, zE102 => K0 zE102
 | m + 1, x7_, zE102 =>
   LET (jf zE102.Fields (ix y105 x7_)) fun y114 =>
   jr y105 K0 m (x7_ + 1) ({ Fields := y114, Headers := zE102.Headers, Registers := zE102.Registers } : am)
def jq (y107 : (List Int)) (K2 : am → am) : Nat → Int → am → am
 | 0, x8_, zE102 => K2 zE102
 | m + 1, x8_, zE102 =>
   LET (gb zE102.Headers (ix y107 x8_)) fun y122 =>
   jq y107 K2 m (x8_ + 1) ({ Fields := zE102.Fields, Headers := y122, Registers := zE102.Registers } : am)
def me (x0 : am) (x1 : List ae) : am :=
 LET (lw x1) fun y105 =>
 LET (kv x1) fun y107 =>
 jr y105 (fun (zE102_118 : am) =>
  jq y107 (fun (zE102_126 : am) =>
   zE102_126) (Int.toNat ((y107.length : Int) - 0)) 0 zE102_118) (Int.toNat ((y105.length : Int) - 0)) 0 x0
def jw (x0 : ab) (x1 : Int) (K0 : am → ((List aa) × (List Int) × (List Int))) : Nat → Int → am → ((List aa) × (List Int) × (List Int))
 | 0, x11_, zE104 => K0 zE104
 | m + 1, x11_, zE104 =>
   LET (fun (zE104_121 : am) =>
    LET (fun (zE104_128 : am) =>
     LET (fun (zE104_139 : am) =>
      LET (fun (zE104_146 : am) =>
       if (decide (((ix ((ix x0.Actions x1).Body) x11_).Kind) = 4)) then
        LET (gb zE104_146.Registers ((ix ((ix x0.Actions x1).Body) x11_).Register)) fun y149 =>
        jw x0 x1 K0 m (x11_ + 1) ({ Fields := zE104_146.Fields, Headers := zE104_146.Headers, Registers := y149 } : am)
       else
       jw x0 x1 K0 m (x11_ + 1) zE104_146) fun k146 =>
      if (decide (((ix ((ix x0.Actions x1).Body) x11_).Kind) = 2)) then
       LET (gb zE104_139.Headers ((ix ((ix x0.Actions x1).Body) x11_).Header)) fun y155 =>
       k146 ({ Fields := zE104_139.Fields, Headers := y155, Registers := zE104_139.Registers } : am)
      else
      k146 zE104_139) fun k139 =>
     if (((decide (((ix ((ix x0.Actions x1).Body) x11_).Kind) = 1)) || (decide (((ix ((ix x0.Actions x1).Body) x11_).Kind) = 4))) && (!decide ((((ix ((ix x0.Actions x1).Body) x11_).Dst).Header) = (-1)))) then
      LET (gb zE104_128.Headers (((ix ((ix x0.Actions x1).Body) x11_).Dst).Header)) fun y162 =>
      k139 ({ Fields := zE104_128.Fields, Headers := y162, Registers := zE104_128.Registers } : am)
     else
     k139 zE104_128) fun k128 =>
    if ((decide (((ix ((ix x0.Actions x1).Body) x11_).Kind) = 1)) || (decide (((ix ((ix x0.Actions x1).Body) x11_).Kind) = 5))) then
     LET (me zE104_121 ((ix ((ix x0.Actions x1).Body) x11_).Value)) fun y168 =>
     k128 y168
    else
    k128 zE104_121) fun k121 =>
   if ((decide (((ix ((ix x0.Actions x1).Body) x11_).Kind) = 4)) || (decide (((ix ((ix x0.Actions x1).Body) x11_).Kind) = 5))) then
    LET (me zE104 ((ix ((ix x0.Actions x1).Body) x11_).Index)) fun y173 =>
    k121 y173
   else
   k121 zE104
def mw (x0 : ab) (x1 : Int) : (List aa) × (List Int) × (List Int) :=
 LET (li x0 x1) fun y101 =>
 if (!decide (y101.2 = 0)) then
  (([] : List aa), ([] : List Int), ([] : List Int))
 else
 jw x0 x1 (fun (zE104_176 : am) =>
  (zE104_176.Fields, zE104_176.Headers, zE104_176.Registers)) (Int.toNat ((((ix x0.Actions x1).Body).length : Int) - 0)) 0 ({ Fields := ([] : List aa), Headers := ([] : List Int), Registers := ([] : List Int) } : am)
def ld (x0 : ab) (x1 : ct) (K0 : (List Int) → (List Int)) : Nat → (List Int) → Int → (List Int)
 | 0, x5_, x7_ => K0 x5_
 | m + 1, x5_, x7_ =>
   LET (er x0 ((ix ((ix x0.Tables x1.Table).Keys) x7_).Field)) fun y125 =>
   LET (kx x5_ y125) fun y126 =>
   ld x0 x1 K0 m y126 (x7_ + 1)
def jx (x0 : ab) (x1 : ct) (K2 : (List Int) → (List Int)) : Nat → (List Int) → Int → (List Int)
 | 0, x5_, x8_ => K2 x5_
 | m + 1, x5_, x8_ =>
   LET (mw x0 (ix ((ix x0.Tables x1.Table).Actions) x8_)) fun y134 =>
   LET (lv x0 x5_ y134.1 y134.2.1 y134.2.2) fun y138 =>
   jx x0 x1 K2 m y138 (x8_ + 1)
def qk (x0 : ab) (x1 : ct) : (List Int) :=
 if (decide (x1.Table = (-1))) then
  LET (lw x1.Cond) fun y103 =>
  LET (kv x1.Cond) fun y106 =>
  LET (lv x0 ([] : List Int) y103 y106 ([] : List Int)) fun y108 =>
  y108
 else
 if ((decide (x1.Table < 0)) || (decide ((x0.Tables.length : Int) ≤ x1.Table))) then
  ([] : List Int)
 else
 ld x0 x1 (fun (x5_128 : List Int) =>
  jx x0 x1 (fun (x5_140 : List Int) =>
   x5_140) (Int.toNat ((((ix x0.Tables x1.Table).Actions).length : Int) - 0)) x5_128 0) (Int.toNat ((((ix x0.Tables x1.Table).Keys).length : Int) - 0)) ([] : List Int) 0
def lf (x0 : List Int) (x1 : List Int) (K0 : Unit → Bool) : Nat → Int → Bool
 | 0, x5_ => K0 ()
 | m + 1, x5_ =>
   if (!decide ((ix x0 x5_) = (ix x1 x5_))) then
    false
   else
   lf x0 x1 K0 m (x5_ + 1)
def my (x0 : List Int) (x1 : List Int) : Bool :=
 if (!decide ((x0.length : Int) = (x1.length : Int))) then
  false
 else
 lf x0 x1 (fun (_ : Unit) =>
  true) (Int.toNat ((x0.length : Int) - 0)) 0
def gx (y103 : (List aq)) (x15_ : Int) (K3 : (List Int) → (List Int) → (List aa) → ((List aa) × (List Int) × (List Int))) : Nat → Int → (List Int) → (List Int) → (List aa) → ((List aa) × (List Int) × (List Int))
 | 0, x49_, zE110n2, zE108n2, zE106n2 => K3 zE110n2 zE108n2 zE106n2
 | m + 1, x49_, zE110n2, zE108n2, zE106n2 =>
   gx y103 x15_ K3 m (x49_ + 1) zE110n2 zE108n2 (zE106n2 ++ ([({ Header := (ix y103 x15_).Header, Field := x49_ } : aa)] : List aa))
def dt (x0 : ab) (y103 : (List aq)) (K0 : (List Int) → (List Int) → (List aa) → ((List aa) × (List Int) × (List Int))) : Nat → Int → (List Int) → (List Int) → (List aa) → ((List aa) × (List Int) × (List Int))
 | 0, x15_, zE110, zE108, zE106 => K0 zE110 zE108 zE106
 | m + 1, x15_, zE110, zE108, zE106 =>
   LET (fun (x21_118 : Bool) =>
    if x21_118 then
     dt x0 y103 K0 m (x15_ + 1) zE110 zE108 (zE106 ++ ([(ix y103 x15_).Dst] : List aa))
    else
    LET (fun (x31_125 : Bool) =>
     if x31_125 then
      gx y103 x15_ (fun (zE110n2_138 : List Int) (zE108n2_138 : List Int) (zE106n2_138 : List aa) =>
       dt x0 y103 K0 m (x15_ + 1) zE110n2_138 zE108n2_138 zE106n2_138) (Int.toNat ((((ix x0.Headers ((ix y103 x15_).Header)).Fields).length : Int) - 0)) 0 zE110 (zE108 ++ ([(ix y103 x15_).Header] : List Int)) zE106
     else
     if (decide (((ix y103 x15_).Kind) = 5)) then
      dt x0 y103 K0 m (x15_ + 1) (zE110 ++ ([(ix y103 x15_).Register] : List Int)) zE108 zE106
     else
     dt x0 y103 K0 m (x15_ + 1) zE110 zE108 zE106) fun k125 =>
    if (decide (((ix y103 x15_).Kind) = 2)) then
     k125 (decide (((ix y103 x15_).Kind) = 2))
    else
    k125 (decide (((ix y103 x15_).Kind) = 3))) fun k118 =>
   if (decide (((ix y103 x15_).Kind) = 1)) then
    k118 (decide (((ix y103 x15_).Kind) = 1))
   else
   k118 (decide (((ix y103 x15_).Kind) = 4))
def fu (x0 : ab) (x1 : Int) : (List aa) × (List Int) × (List Int) :=
 LET (iz x0 x1) fun y103 =>
 dt x0 y103 (fun (zE110_145 : List Int) (zE108_145 : List Int) (zE106_145 : List aa) =>
  LET (cm ({ fields := zE106_145, headers := zE108_145, registers := zE110_145 } : bq)) fun y146 =>
  (y146.1, y146.2.1, y146.2.2)) (Int.toNat ((y103.length : Int) - 0)) 0 ([] : List Int) ([] : List Int) ([] : List aa)
def jo (x0 : ab) (y101 : bh × Bool) (K0 : ai → (List Int)) : Nat → Int → ai → (List Int)
 | 0, x24_, zE109 => K0 zE109
 | m + 1, x24_, zE109 =>
   LET (fu x0 (ix y101.1.Actions x24_)) fun y120 =>
   LET (ej ({ p := zE109.p, cells := zE109.cells } : ai) y120.1 y120.2.1 y120.2.2) fun y124 =>
   jo x0 y101 K0 m (x24_ + 1) ({ p := y124.p, cells := y124.cells } : ai)
def md (x0 : ab) (x1 : ct) : (List Int) :=
 LET (fy x0 x1) fun y101 =>
 if (!y101.2) then
  ([] : List Int)
 else
 jo x0 y101 (fun (zE109_127 : ai) =>
  LET (dv ({ p := zE109_127.p, cells := zE109_127.cells } : ai)) fun y128 =>
  y128) (Int.toNat ((y101.1.Actions.length : Int) - 0)) 0 ({ p := x0, cells := ([] : List Int) } : ai)
def kd (x0 : ab) (x1 : Int) (x11_ : Int) (K3 : am → ((List aa) × (List Int) × (List Int))) : Nat → Int → am → ((List aa) × (List Int) × (List Int))
 | 0, x13_, zE104n2 => K3 zE104n2
 | m + 1, x13_, zE104n2 =>
   LET (jf zE104n2.Fields ({ Header := (ix ((ix x0.Actions x1).Body) x11_).Header, Field := x13_ } : aa)) fun y136 =>
   kd x0 x1 x11_ K3 m (x13_ + 1) ({ Fields := y136, Headers := zE104n2.Headers, Registers := zE104n2.Registers } : am)
def gu (x0 : ab) (x1 : Int) (K0 : am → ((List aa) × (List Int) × (List Int))) : Nat → Int → am → ((List aa) × (List Int) × (List Int))
 | 0, x11_, zE104 => K0 zE104
 | m + 1, x11_, zE104 =>
   LET (fun (x47_116 : Bool) =>
    if x47_116 then
     LET (jf zE104.Fields ((ix ((ix x0.Actions x1).Body) x11_).Dst)) fun y120 =>
     gu x0 x1 K0 m (x11_ + 1) ({ Fields := y120, Headers := zE104.Headers, Registers := zE104.Registers } : am)
    else
    LET (fun (x56_125 : Bool) =>
     if x56_125 then
      kd x0 x1 x11_ (fun (zE104n2_140 : am) =>
       LET (gb zE104n2_140.Headers ((ix ((ix x0.Actions x1).Body) x11_).Header)) fun y142 =>
       gu x0 x1 K0 m (x11_ + 1) ({ Fields := zE104n2_140.Fields, Headers := y142, Registers := zE104n2_140.Registers } : am)) (Int.toNat ((((ix x0.Headers ((ix ((ix x0.Actions x1).Body) x11_).Header)).Fields).length : Int) - 0)) 0 zE104
     else
     LET (gb zE104.Registers ((ix ((ix x0.Actions x1).Body) x11_).Register)) fun y147 =>
     gu x0 x1 K0 m (x11_ + 1) ({ Fields := zE104.Fields, Headers := zE104.Headers, Registers := y147 } : am)) fun k125 =>
    if (decide (((ix ((ix x0.Actions x1).Body) x11_).Kind) = 2)) then
     k125 (decide (((ix ((ix x0.Actions x1).Body) x11_).Kind) = 2))
    else
    k125 (decide (((ix ((ix x0.Actions x1).Body) x11_).Kind) = 3))) fun k116 =>
   if (decide (((ix ((ix x0.Actions x1).Body) x11_).Kind) = 1)) then
    k116 (decide (((ix ((ix x0.Actions x1).Body) x11_).Kind) = 1))
   else
   k116 (decide (((ix ((ix x0.Actions x1).Body) x11_).Kind) = 4))
def ly (x0 : ab) (x1 : Int) : (List aa) × (List Int) × (List Int) :=
 LET (li x0 x1) fun y101 =>
 if (!decide (y101.2 = 0)) then
  (([] : List aa), ([] : List Int), ([] : List Int))
 else
 gu x0 x1 (fun (zE104_153 : am) =>
  (zE104_153.Fields, zE104_153.Headers, zE104_153.Registers)) (Int.toNat ((((ix x0.Actions x1).Body).length : Int) - 0)) 0 ({ Fields := ([] : List aa), Headers := ([] : List Int), Registers := ([] : List Int) } : am)
def kn (x0 : ab) (x1 : ct) (K0 : (List Int) → (List Int)) : Nat → (List Int) → Int → (List Int)
 | 0, x5_, x7_ => K0 x5_
 | m + 1, x5_, x7_ =>
   LET (ly x0 (ix ((ix x0.Tables x1.Table).Actions) x7_)) fun y114 =>
   LET (lv x0 x5_ y114.1 y114.2.1 y114.2.2) fun y118 =>
   kn x0 x1 K0 m y118 (x7_ + 1)
def mo (x0 : ab) (x1 : ct) : (List Int) :=
 if ((decide (x1.Table < 0)) || (decide ((x0.Tables.length : Int) ≤ x1.Table))) then
  ([] : List Int)
 else
 kn x0 x1 (fun (x5_120 : List Int) =>
  x5_120) (Int.toNat ((((ix x0.Tables x1.Table).Actions).length : Int) - 0)) ([] : List Int) 0
def mv (x0 : ab) (x1 : ct) : Bool :=
 LET (mh x0) fun y101 =>
 if (y101 || (decide (60 < (x1.Cond.length : Int)))) then
  LET (ri) fun y105 =>
  y105
 else
 LET (pw x0 x1) fun y106 =>
 LET (qk x0 x1) fun y108 =>
 LET (my y106 y108) fun y110 =>
 ((y110 && (my (md x0 x1) (mo x0 x1))) && (ri))
end Go.Proofs.YtmonnlkagniolaaGreat
