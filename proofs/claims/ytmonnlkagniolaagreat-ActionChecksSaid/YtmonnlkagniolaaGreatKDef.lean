import Derived.Test.YtmonnlkagniolaaGreatKTy
import Derived.Test.YtmonnlkagniolaaGreatPbV
set_option linter.unusedVariables false
set_option linter.unusedSimpArgs false
set_option maxRecDepth 100000
namespace Go.Proofs.YtmonnlkagniolaaGreat
open Go Go.Pb Go.RowKit
def kw (x0 : af) (x3_ : Int) (K2 : Unit → Bool) : Nat → Int → Bool
 | 0, x4_ => K2 ()
 | m + 1, x4_ =>
   if ((decide (60 < (((ix ((ix x0.Actions x3_).Body) x4_).Index).length : Int))) || (decide (60 < (((ix ((ix x0.Actions x3_).Body) x4_).Value).length : Int)))) then
    false
   else
   kw x0 x3_ K2 m (x4_ + 1)
def ku (x0 : af) (K0 : Unit → Bool) : Nat → Int → Bool
 | 0, x3_ => K0 ()
 | m + 1, x3_ =>
   if ((decide (20 < (((ix x0.Actions x3_).Params).length : Int))) || (decide (30 < (((ix x0.Actions x3_).Body).length : Int)))) then
    false
   else
   kw x0 x3_ (fun (_ : Unit) =>
    ku x0 K0 m (x3_ + 1)) (Int.toNat ((((ix x0.Actions x3_).Body).length : Int) - 0)) 0
def kt (x0 : af) (K4 : Unit → Bool) : Nat → Int → Bool
 | 0, x5_ => K4 ()
 | m + 1, x5_ =>
   if (decide (40 < (((ix x0.Headers x5_).Fields).length : Int))) then
    false
   else
   kt x0 K4 m (x5_ + 1)
def mo (x0 : af) (K6 : Unit → Bool) : Nat → Int → Bool
 | 0, x6_ => K6 ()
 | m + 1, x6_ =>
   if (decide (200 < ((ix x0.Registers x6_).Size))) then
    false
   else
   mo x0 K6 m (x6_ + 1)
def ot (x0 : af) : Bool :=
 if ((((decide (20 < (x0.Headers.length : Int))) || (decide (30 < (x0.Metadata.length : Int)))) || (decide (20 < (x0.Registers.length : Int)))) || (decide (40 < (x0.Actions.length : Int)))) then
  false
 else
 ku x0 (fun (_ : Unit) =>
  kt x0 (fun (_ : Unit) =>
   mo x0 (fun (_ : Unit) =>
    true) (Int.toNat ((x0.Registers.length : Int) - 0)) 0) (Int.toNat ((x0.Headers.length : Int) - 0)) 0) (Int.toNat ((x0.Actions.length : Int) - 0)) 0
def oq : Bool := true
def js (x0 : UInt8) : Bool :=
 (((decide ((97 : UInt8) ≤ x0)) && (decide (x0 ≤ (122 : UInt8)))) || ((decide ((65 : UInt8) ≤ x0)) && (decide (x0 ≤ (90 : UInt8)))))
def jy (x0 : List UInt8) (x1 : UInt8 → Bool) (K0 : Int → Int) : Nat → Int → Int
 | 0, x5_ => K0 x5_
 | m + 1, x5_ =>
   if ((decide (x5_ < (x0.length : Int))) && (x1 (ix x0 x5_))) then
    jy x0 x1 K0 m (x5_ + 1)
   else
   K0 x5_
def pe (x0 : List UInt8) (x1 : UInt8 → Bool) : Int :=
 jy x0 x1 (fun (x5_107 : Int) =>
  x5_107) (Int.toNat ((x0.length : Int) - 0)) 0
def km (x0 : UInt8) : Bool :=
 ((decide ((48 : UInt8) ≤ x0)) && (decide (x0 ≤ (57 : UInt8))))
def io (x0 : UInt8) : Bool :=
 LET (js x0) fun y101 =>
 ((y101 || (km x0)) || (decide (x0 = (95 : UInt8))))
def ik (x0 : List UInt8) : Bool :=
 if (((decide ((x0.length : Int) = 0)) || (decide (16 < (x0.length : Int)))) || (!(js (ix x0 0)))) then
  false
 else
 LET (pe x0 io) fun y105 =>
 (decide (y105 = (x0.length : Int)))
def dy (x0 : ay) (c0 : ay) : Bool :=
 (decide (x0.Name = c0.Name))
def co (x0 : List ay) (x1 : ay → Bool) (K0 : Unit → Int) : Nat → Int → Int
 | 0, x8_ => K0 ()
 | m + 1, x8_ =>
   if (x1 (ix x0 x8_)) then
    x8_
   else
   co x0 x1 K0 m (x8_ + 1)
def fb (x0 : List ay) (x1 : ay → Bool) : Int :=
 co x0 x1 (fun (_ : Unit) =>
  (-1)) (Int.toNat ((x0.length : Int) - 0)) 0
def ee (x0 : List ay) (x1 : ay → Bool) : Bool :=
 LET (fb x0 x1) fun y101 =>
 (decide (0 ≤ y101))
def fe (x0 : bg) (K1 : Unit → Int) : Nat → Int → Int
 | 0, x24_ => K1 ()
 | m + 1, x24_ =>
   LET (ik ((ix x0.Params x24_).Name)) fun y114 =>
   if (!y114) then
    6
   else
   if ((decide (((ix x0.Params x24_).Width) < 1)) || (decide (32 < ((ix x0.Params x24_).Width)))) then
    10
   else
   LET (ee (sub x0.Params 0 x24_) (fun a_ => dy a_ (ix x0.Params x24_))) fun y122 =>
   if y122 then
    7
   else
   fe x0 K1 m (x24_ + 1)
def ii (x0 : bg) : Int :=
 LET (ik x0.Name) fun y101 =>
 if (!y101) then
  6
 else
 if ((decide (4 < (x0.Params.length : Int))) || (decide (12 < (x0.Body.length : Int)))) then
  12
 else
 fe x0 (fun (_ : Unit) =>
  0) (Int.toNat ((x0.Params.length : Int) - 0)) 0
def mv (x0 : af) (x1 : aa) : Int × Bool :=
 LET (fun (x6_109 : List ay) =>
  if ((decide (x1.Field < 0)) || (decide ((x6_109.length : Int) ≤ x1.Field))) then
   (0, false)
  else
  ((ix x6_109 x1.Field).Width, true)) fun k109 =>
 if (!decide (x1.Header = (-1))) then
  if ((decide (x1.Header < 0)) || (decide ((x0.Headers.length : Int) ≤ x1.Header))) then
   (0, false)
  else
  k109 ((ix x0.Headers x1.Header).Fields)
 else
 k109 x0.Metadata
def dh (x0 : Int) : Int :=
 LET (fun (x4_104 : Bool) =>
  if x4_104 then
   0
  else
  LET (fun (x9_109 : Bool) =>
   if x9_109 then
    1
   else
   LET (fun (x14_118 : Bool) =>
    if x14_118 then
     2
    else
    if (decide (x0 = 17)) then
     3
    else
    (-1)) fun k118 =>
   if (decide (x0 = 9)) then
    k118 (decide (x0 = 9))
   else
   if (decide (x0 = 10)) then
    k118 (decide (x0 = 10))
   else
   if (decide (x0 = 11)) then
    k118 (decide (x0 = 11))
   else
   if (decide (x0 = 12)) then
    k118 (decide (x0 = 12))
   else
   if (decide (x0 = 13)) then
    k118 (decide (x0 = 13))
   else
   if (decide (x0 = 14)) then
    k118 (decide (x0 = 14))
   else
   if (decide (x0 = 15)) then
    k118 (decide (x0 = 15))
   else
   k118 (decide (x0 = 16))) fun k109 =>
  if (decide (x0 = 5)) then
   k109 (decide (x0 = 5))
  else
  if (decide (x0 = 6)) then
   k109 (decide (x0 = 6))
  else
  if (decide (x0 = 7)) then
   k109 (decide (x0 = 7))
  else
  k109 (decide (x0 = 8))) fun k104 =>
 if (decide (x0 = 1)) then
  k104 (decide (x0 = 1))
 else
 if (decide (x0 = 2)) then
  k104 (decide (x0 = 2))
 else
 if (decide (x0 = 3)) then
  k104 (decide (x0 = 3))
 else
 k104 (decide (x0 = 4))
def lc (x0 : Int) : Int × Int :=
 if ((decide (x0 < 1)) || (decide (32 < x0))) then
  (0, 10)
 else
 (x0, 0)
def jz (x0 : List Int) (K0 : Unit → Bool) : Nat → Int → Bool
 | 0, x7_ => K0 ()
 | m + 1, x7_ =>
   if ((decide ((ix x0 x7_) < 1)) || (decide (32 < (ix x0 x7_)))) then
    false
   else
   jz x0 K0 m (x7_ + 1)
def li (x0 : List Int) : Bool :=
 jz x0 (fun (_ : Unit) =>
  true) (Int.toNat ((x0.length : Int) - 0)) 0
def gv (x0 : Int) : (BitVec 32) :=
 LET (li ([x0] : List Int)) fun y102 =>
 if (!y102) then
  0#32
 else
 (4294967295#32 >>> (wr (32 - x0)).toNat)
def jo (x0 : au) (x1 : Int) (x2 : Int) : ay × Bool :=
 LET (fun (x8_115 : List ay) =>
  if ((decide (x2 < 0)) || (decide ((x8_115.length : Int) ≤ x2))) then
   (({ Name := ([] : List UInt8), Width := 0 } : ay), false)
  else
  ((ix x8_115 x2), true)) fun k115 =>
 if (!decide (x1 = (-1))) then
  if ((decide (x1 < 0)) || (decide ((x0.Program.Headers.length : Int) ≤ x1))) then
   (({ Name := ([] : List UInt8), Width := 0 } : ay), false)
  else
  k115 ((ix x0.Program.Headers x1).Fields)
 else
 k115 x0.Program.Metadata
def fm (x0 : au) (x1 : ab) : Int × Int :=
 if (decide (x1.Op = 1)) then
  LET (lc x1.W) fun y102 =>
  if ((decide (y102.2 = 0)) && ((decide (x1.N < 0)) || (decide (((gv y102.1).toNat : Int) < x1.N)))) then
   (0, 9)
  else
  (y102.1, y102.2)
 else
 if (decide (x1.Op = 2)) then
  LET (jo x0 x1.N x1.W) fun y108 =>
  if (!y108.2) then
   (0, 8)
  else
  LET (lc y108.1.Width) fun y114 =>
  (y114.1, y114.2)
 else
 if (decide (x1.Op = 3)) then
  if ((decide (x1.N < 0)) || (decide ((x0.Params.length : Int) ≤ x1.N))) then
   (0, 8)
  else
  LET (lc ((ix x0.Params x1.N).Width)) fun y121 =>
  (y121.1, y121.2)
 else
 if ((decide (x1.N < 0)) || (decide ((x0.Program.Headers.length : Int) ≤ x1.N))) then
  (0, 8)
 else
 (1, 0)
def fc (x0 : ab) (x1 : List Int) : Int × Int :=
 LET (fun (x10_102 : Bool) =>
  if x10_102 then
   if ((decide (x0.N < 0)) || (decide (31 < x0.N))) then
    (0, 9)
   else
   LET (dh x0.Op) fun y106 =>
   if ((decide (y106 = 2)) && (!decide ((ix x1 0) = (ix x1 1)))) then
    (0, 10)
   else
   if ((decide (x0.Op = 15)) || (decide (x0.Op = 16))) then
    (1, 0)
   else
   ((ix x1 0), 0)
  else
  if (decide (x0.Op = 8)) then
   if (decide (x0.N < 0)) then
    (0, 9)
   else
   LET (lc x0.W) fun y116 =>
   if ((!decide (y116.2 = 0)) || (decide ((wr ((ix x1 0) - x0.W)) < x0.N))) then
    (0, 10)
   else
   (x0.W, 0)
  else
  if (decide (x0.Op = 14)) then
   LET (lc (wr ((ix x1 0) + (ix x1 1)))) fun y123 =>
   (y123.1, y123.2)
  else
  if (decide (x0.Op = 17)) then
   if ((!decide ((ix x1 0) = 1)) || (!decide ((ix x1 1) = (ix x1 2)))) then
    (0, 10)
   else
   ((ix x1 1), 0)
  else
  LET (dh x0.Op) fun y131 =>
  if ((decide (y131 = 2)) && (!decide ((ix x1 0) = (ix x1 1)))) then
   (0, 10)
  else
  if ((decide (x0.Op = 15)) || (decide (x0.Op = 16))) then
   (1, 0)
  else
  ((ix x1 0), 0)) fun k102 =>
 if (decide (x0.Op = 6)) then
  k102 (decide (x0.Op = 6))
 else
 k102 (decide (x0.Op = 7))
def cd (x0 : au) (x1 : List ab) (rec_ : au → (List ab) → Int → (Int × Int × Int)) (K1 : Int → (List Int) → (Int × Int × Int)) : Nat → Int → Int → (List Int) → (Int × Int × Int)
 | 0, x7_, x44_, zE109 => K1 x7_ zE109
 | m + 1, x7_, x44_, zE109 =>
   LET (rec_ x0 x1 x7_) fun y112 =>
   if (!decide (y112.2.2 = 0)) then
    (0, 0, y112.2.2)
   else
   cd x0 x1 rec_ K1 m y112.2.1 (x44_ + 1) (zE109.set x44_.toNat y112.1)
def da (rec_ : au → (List ab) → Int → (Int × Int × Int)) (x0 : au) (x1 : List ab) (x2 : Int) : Int × Int × Int :=
 if (decide ((x1.length : Int) ≤ x2)) then
  (0, 0, 3)
 else
 LET (dh ((ix x1 x2).Op)) fun y103 =>
 if (decide (y103 < 0)) then
  (0, 0, 11)
 else
 if (decide (y103 = 0)) then
  LET (fm x0 (ix x1 x2)) fun y107 =>
  (y107.1, (wr (x2 + 1)), y107.2)
 else
 cd x0 x1 rec_ (fun (x7_116 : Int) (zE109_116 : List Int) =>
  LET (fc (ix x1 x2) zE109_116) fun y118 =>
  (y118.1, x7_116, y118.2)) (Int.toNat (y103 - 0)) (wr (x2 + 1)) 0 ([0, 0, 0] : List Int)
def ci : Nat → au → (List ab) → Int → (Int × Int × Int)
 | 0, x0, x1, x2 => (0, 0, 1)
 | n_ + 1, x0, x1, x2 => da (ci n_) x0 x1 x2
def bz (x0 : au) (x1 : List ab) (x2 : Int) : Int × Int × Int := ci ((x1.length - x2.toNat) + 1) x0 x1 x2
def lk (x0 : List ab) (x1 : au) : Int × Int :=
 if (decide (24 < (x0.length : Int))) then
  (0, 12)
 else
 LET (bz x1 x0 0) fun y102 =>
 if (!decide (y102.2.2 = 0)) then
  (0, y102.2.2)
 else
 if (decide (y102.2.1 < (x0.length : Int))) then
  (0, 4)
 else
 (y102.1, 0)
def fa (x0 : ck) (x1 : List ab) (x2 : Int) : Int :=
 LET (lk x1 x0.scope) fun y102 =>
 if ((decide (y102.2 = 0)) && (!decide (y102.1 = x2))) then
  10
 else
 y102.2
def di (x0 : ck) (x1 : aj) : Int :=
 LET (mv x0.scope.Program x1.Dst) fun y107 =>
 if (decide (x1.Kind = 1)) then
  if (!y107.2) then
   8
  else
  LET (fa x0 x1.Value y107.1) fun y113 =>
  y113
 else
 LET (fun (x43_115 : Bool) =>
  if x43_115 then
   if ((decide (x1.Header < 0)) || (decide ((x0.scope.Program.Headers.length : Int) ≤ x1.Header))) then
    8
   else
   0
  else
  LET (fun (x57_121 : Bool) =>
   if x57_121 then
    if ((!((decide (0 ≤ x1.Register)) && (decide (x1.Register < (x0.scope.Program.Registers.length : Int))))) || ((decide (x1.Kind = 4)) && (!y107.2))) then
     8
    else
    LET (lk x1.Index x0.scope) fun y128 =>
    if (!decide (y128.2 = 0)) then
     y128.2
    else
    if (decide (x1.Kind = 5)) then
     LET (fa x0 x1.Value ((ix x0.scope.Program.Registers x1.Register).Width)) fun y134 =>
     y134
    else
    if (!decide (y107.1 = ((ix x0.scope.Program.Registers x1.Register).Width))) then
     10
    else
    0
   else
   11) fun k121 =>
  if (decide (x1.Kind = 4)) then
   k121 (decide (x1.Kind = 4))
  else
  k121 (decide (x1.Kind = 5))) fun k115 =>
 if (decide (x1.Kind = 2)) then
  k115 (decide (x1.Kind = 2))
 else
 k115 (decide (x1.Kind = 3))
def ib (x0 : af) (x1 : Int) (K0 : Unit → (Int × Int)) : Nat → Int → (Int × Int)
 | 0, x37_ => K0 ()
 | m + 1, x37_ =>
   LET (di ({ scope := ({ Program := x0, Params := (ix x0.Actions x1).Params } : au) } : ck) (ix ((ix x0.Actions x1).Body) x37_)) fun y124 =>
   if (!decide (y124 = 0)) then
    (x37_, y124)
   else
   ib x0 x1 K0 m (x37_ + 1)
def iz (x0 : af) (x1 : Int) : Int × Int :=
 if ((decide (x1 < 0)) || (decide ((x0.Actions.length : Int) ≤ x1))) then
  ((-1), 8)
 else
 LET (ii (ix x0.Actions x1)) fun y109 =>
 if (!decide (y109 = 0)) then
  ((-1), y109)
 else
 ib x0 x1 (fun (_ : Unit) =>
  (0, 0)) (Int.toNat ((((ix x0.Actions x1).Body).length : Int) - 0)) 0
def lh (x0 : UInt8) : Bool :=
 (((decide ((97 : UInt8) ≤ x0)) && (decide (x0 ≤ (122 : UInt8)))) || ((decide ((65 : UInt8) ≤ x0)) && (decide (x0 ≤ (90 : UInt8)))))
def mm (x0 : UInt8) : Bool :=
 ((decide ((48 : UInt8) ≤ x0)) && (decide (x0 ≤ (57 : UInt8))))
def gj (x0 : List UInt8) (K0 : Unit → Bool) : Nat → Int → Bool
 | 0, x3_ => K0 ()
 | m + 1, x3_ =>
   LET (lh (ix x0 x3_)) fun y107 =>
   if (((!y107) && (!(mm (ix x0 x3_)))) && (!decide ((ix x0 x3_) = (95 : UInt8)))) then
    false
   else
   gj x0 K0 m (x3_ + 1)
def gn (x0 : List UInt8) : Bool :=
 if (((decide (x0 = ([] : List UInt8))) || (decide (16 < (x0.length : Int)))) || (!(lh (ix x0 0)))) then
  false
 else
 gj x0 (fun (_ : Unit) =>
  true) (Int.toNat ((x0.length : Int) - 0)) 0
def ji (x0 : List ay) (x3_ : Int) (K3 : Unit → Int) : Nat → Int → Int
 | 0, x4_ => K3 ()
 | m + 1, x4_ =>
   if (decide (((ix x0 x4_).Name) = ((ix x0 x3_).Name))) then
    7
   else
   ji x0 x3_ K3 m (x4_ + 1)
def je (x0 : List ay) (K0 : Unit → Int) : Nat → Int → Int
 | 0, x3_ => K0 ()
 | m + 1, x3_ =>
   LET (gn ((ix x0 x3_).Name)) fun y104 =>
   if (!y104) then
    6
   else
   if ((decide (((ix x0 x3_).Width) < 1)) || (decide (32 < ((ix x0 x3_).Width)))) then
    10
   else
   ji x0 x3_ (fun (_ : Unit) =>
    je x0 K0 m (x3_ + 1)) (Int.toNat (x3_ - 0)) 0
def mz (x0 : List ay) : Int :=
 je x0 (fun (_ : Unit) =>
  0) (Int.toNat ((x0.length : Int) - 0)) 0
def ov (x0 : af) (x1 : Int) : au :=
 ({ Program := x0, Params := (ix x0.Actions x1).Params } : au)
def ks (x0 : af) (x1 : aa) : Int × Bool :=
 LET (fun (x6_109 : List ay) =>
  if ((decide (x1.Field < 0)) || (decide ((x6_109.length : Int) ≤ x1.Field))) then
   (0, false)
  else
  ((ix x6_109 x1.Field).Width, true)) fun k109 =>
 if (!decide (x1.Header = (-1))) then
  if ((decide (x1.Header < 0)) || (decide ((x0.Headers.length : Int) ≤ x1.Header))) then
   (0, false)
  else
  k109 ((ix x0.Headers x1.Header).Fields)
 else
 k109 x0.Metadata
def jt (x0 : Int) : Int :=
 if ((decide (1 ≤ x0)) && (decide (x0 ≤ 4))) then
  0
 else
 if ((decide (5 ≤ x0)) && (decide (x0 ≤ 8))) then
  1
 else
 if ((decide (9 ≤ x0)) && (decide (x0 ≤ 16))) then
  2
 else
 if (decide (x0 = 17)) then
  3
 else
 (-1)
def mj (x0 : Int) : Int × Int :=
 if ((decide (x0 < 1)) || (decide (32 < x0))) then
  (0, 10)
 else
 (x0, 0)
def im (x0 : Int) : Bool :=
 ((decide (1 ≤ x0)) && (decide (x0 ≤ 32)))
def ml (K0 : (BitVec 64) → (BitVec 64)) : Nat → (BitVec 64) → Int → (BitVec 64)
 | 0, x3_, x4_ => K0 x3_
 | m + 1, x3_, x4_ =>
   ml K0 m (2#64 * x3_) (x4_ + 1)
def lr (x0 : Int) : (BitVec 64) :=
 ml (fun (x3_103 : BitVec 64) =>
  x3_103) (Int.toNat (x0 - 0)) 1#64 0
def ma (x0 : Int) : (BitVec 32) :=
 LET (im x0) fun y101 =>
 if (!y101) then
  0#32
 else
 LET (lr x0) fun y103 =>
 (BitVec.setWidth 32 (y103 - 1#64))
def oi (x0 : ab) (x1 : au) : Int × Int :=
 if (decide (x0.Op = 1)) then
  LET (mj x0.W) fun y102 =>
  if ((decide (y102.2 = 0)) && ((decide (x0.N < 0)) || (decide (((ma y102.1).toNat : Int) < x0.N)))) then
   (0, 9)
  else
  (y102.1, y102.2)
 else
 if (decide (x0.Op = 2)) then
  LET (ks x1.Program ({ Header := x0.N, Field := x0.W } : aa)) fun y109 =>
  if (!y109.2) then
   (0, 8)
  else
  LET (mj y109.1) fun y111 =>
  (y111.1, y111.2)
 else
 if (decide (x0.Op = 3)) then
  if ((decide (x0.N < 0)) || (decide ((x1.Params.length : Int) ≤ x0.N))) then
   (0, 8)
  else
  LET (mj ((ix x1.Params x0.N).Width)) fun y118 =>
  (y118.1, y118.2)
 else
 if ((decide (x0.N < 0)) || (decide ((x1.Program.Headers.length : Int) ≤ x0.N))) then
  (0, 8)
 else
 (1, 0)
def fy (x0 : ab) (x1 : List Int) : Int × Int :=
 if (decide (x0.Op = 5)) then
  ((ix x1 0), 0)
 else
 LET (fun (x13_103 : Bool) =>
  if x13_103 then
   if ((decide (x0.N < 0)) || (decide (31 < x0.N))) then
    (0, 9)
   else
   ((ix x1 0), 0)
  else
  if (decide (x0.Op = 8)) then
   if (decide (x0.N < 0)) then
    (0, 9)
   else
   if (((decide (x0.W < 1)) || (decide (32 < x0.W))) || (decide ((wr ((ix x1 0) - x0.W)) < x0.N))) then
    (0, 10)
   else
   (x0.W, 0)
  else
  if (decide (x0.Op = 14)) then
   LET (mj (wr ((ix x1 0) + (ix x1 1)))) fun y113 =>
   (y113.1, y113.2)
  else
  if (decide (x0.Op = 17)) then
   if ((!decide ((ix x1 0) = 1)) || (!decide ((ix x1 1) = (ix x1 2)))) then
    (0, 10)
   else
   ((ix x1 1), 0)
  else
  if (!decide ((ix x1 0) = (ix x1 1))) then
   (0, 10)
  else
  if ((decide (x0.Op = 15)) || (decide (x0.Op = 16))) then
   (1, 0)
  else
  ((ix x1 0), 0)) fun k103 =>
 if (decide (x0.Op = 6)) then
  k103 (decide (x0.Op = 6))
 else
 k103 (decide (x0.Op = 7))
def ju (x0 : List ab) (x2 : au) (rec_ : (List ab) → Int → au → (Int × Int × Int)) (K0 : Int → (List Int) → (Int × Int × Int)) : Nat → Int → Int → (List Int) → (Int × Int × Int)
 | 0, x13_, x14_, zE109 => K0 x13_ zE109
 | m + 1, x13_, x14_, zE109 =>
   LET (rec_ x0 x13_ x2) fun y112 =>
   if (!decide (y112.2.2 = 0)) then
    (0, y112.2.1, y112.2.2)
   else
   ju x0 x2 rec_ K0 m y112.2.1 (x14_ + 1) (zE109 ++ ([y112.1] : List Int))
def ll (rec_ : (List ab) → Int → au → (Int × Int × Int)) (x0 : List ab) (x1 : Int) (x2 : au) : Int × Int × Int :=
 if (decide ((x0.length : Int) ≤ x1)) then
  (0, x1, 3)
 else
 LET (jt ((ix x0 x1).Op)) fun y103 =>
 if (decide (y103 < 0)) then
  (0, x1, 11)
 else
 if (decide (y103 = 0)) then
  LET (oi (ix x0 x1) x2) fun y107 =>
  (y107.1, (wr (x1 + 1)), y107.2)
 else
 ju x0 x2 rec_ (fun (x13_116 : Int) (zE109_116 : List Int) =>
  LET (fy (ix x0 x1) zE109_116) fun y118 =>
  (y118.1, x13_116, y118.2)) (Int.toNat (y103 - 0)) (wr (x1 + 1)) 0 ([] : List Int)
def gg : Nat → (List ab) → Int → au → (Int × Int × Int)
 | 0, x0, x1, x2 => (0, 0, 1)
 | n_ + 1, x0, x1, x2 => ll (gg n_) x0 x1 x2
def oz (x0 : List ab) (x1 : Int) (x2 : au) : Int × Int × Int := gg ((x0.length - x1.toNat) + 1) x0 x1 x2
def lu (x0 : List ab) (x1 : au) : Int × Int :=
 if (decide (24 < (x0.length : Int))) then
  (0, 12)
 else
 LET (oz x0 0 x1) fun y102 =>
 if (!decide (y102.2.2 = 0)) then
  (0, y102.2.2)
 else
 if (decide (y102.2.1 < (x0.length : Int))) then
  (0, 4)
 else
 (y102.1, 0)
def ni (x0 : List ab) (x1 : au) (x2 : Int) : Int :=
 LET (lu x0 x1) fun y101 =>
 if ((decide (y101.2 = 0)) && (!decide (y101.1 = x2))) then
  10
 else
 y101.2
def mf (x0 : af) (x1 : aj) (x2 : au) : Int :=
 LET (ks x0 x1.Dst) fun y102 =>
 if (decide (x1.Kind = 1)) then
  if (!y102.2) then
   8
  else
  LET (ni x1.Value x2 y102.1) fun y108 =>
  y108
 else
 LET (fun (x43_110 : Bool) =>
  if x43_110 then
   if ((decide (x1.Header < 0)) || (decide ((x0.Headers.length : Int) ≤ x1.Header))) then
    8
   else
   0
  else
  if (decide (x1.Kind = 4)) then
   if ((!y102.2) || (!((decide (0 ≤ x1.Register)) && (decide (x1.Register < (x0.Registers.length : Int)))))) then
    8
   else
   LET (lu x1.Index x2) fun y119 =>
   if ((decide (y119.2 = 0)) && (!decide (y102.1 = ((ix x0.Registers x1.Register).Width)))) then
    10
   else
   y119.2
  else
  if (decide (x1.Kind = 5)) then
   if (!((decide (0 ≤ x1.Register)) && (decide (x1.Register < (x0.Registers.length : Int))))) then
    8
   else
   LET (lu x1.Index x2) fun y127 =>
   if (!decide (y127.2 = 0)) then
    y127.2
   else
   LET (ni x1.Value x2 ((ix x0.Registers x1.Register).Width)) fun y132 =>
   y132
  else
  11) fun k110 =>
 if (decide (x1.Kind = 2)) then
  k110 (decide (x1.Kind = 2))
 else
 k110 (decide (x1.Kind = 3))
def kx (x0 : af) (x1 : Int) (K1 : Unit → (Int × Int)) : Nat → Int → (Int × Int)
 | 0, x7_ => K1 ()
 | m + 1, x7_ =>
   LET (ov x0 x1) fun y126 =>
   LET (mf x0 (ix ((ix x0.Actions x1).Body) x7_) y126) fun y128 =>
   if (!decide (y128 = 0)) then
    (x7_, y128)
   else
   kx x0 x1 K1 m (x7_ + 1)
def jf (x0 : af) (x1 : Int) : Int × Int :=
 if ((decide (x1 < 0)) || (decide ((x0.Actions.length : Int) ≤ x1))) then
  ((-1), 8)
 else
 LET (gn ((ix x0.Actions x1).Name)) fun y109 =>
 if (!y109) then
  ((-1), 6)
 else
 if ((decide (4 < (((ix x0.Actions x1).Params).length : Int))) || (decide (12 < (((ix x0.Actions x1).Body).length : Int)))) then
  ((-1), 12)
 else
 LET (mz ((ix x0.Actions x1).Params)) fun y116 =>
 if (!decide (y116 = 0)) then
  LET (mz ((ix x0.Actions x1).Params)) fun y119 =>
  ((-1), y119)
 else
 kx x0 x1 (fun (_ : Unit) =>
  (0, 0)) (Int.toNat ((((ix x0.Actions x1).Body).length : Int) - 0)) 0
def jh (x0 : af) (x1 : Int) : (List aj) :=
 LET (iz x0 x1) fun y101 =>
 if (!decide (y101.2 = 0)) then
  ([] : List aj)
 else
 (ix x0.Actions x1).Body
def nb (x0 : Int) : Bool :=
 (!decide (x0 = x0))
def jd (x0 : Int) (x1 : Int) : Int :=
 LET (nb x0) fun y101 =>
 LET (nb x1) fun y102 =>
 if y101 then
  if y102 then
   0
  else
  (-1)
 else
 if y102 then
  1
 else
 if (decide (x0 < x1)) then
  (-1)
 else
 if (decide (x1 < x0)) then
  1
 else
 0
def kf (x0 : List Int) (K0 : Unit → Int) : Nat → Int → Int
 | 0, x8_ => K0 ()
 | m + 1, x8_ =>
   if (!decide ((ix x0 x8_) = 0)) then
    (ix x0 x8_)
   else
   kf x0 K0 m (x8_ + 1)
def ny (x0 : List Int) : Int :=
 kf x0 (fun (_ : Unit) =>
  0) (Int.toNat ((x0.length : Int) - 0)) 0
def iw (x0 : aa) (x1 : aa) : Int :=
 LET (jd x0.Header x1.Header) fun y101 =>
 LET (jd x0.Field x1.Field) fun y102 =>
 LET (ny ([y101, y102] : List Int)) fun y104 =>
 y104
def dj (x0 : aa) (x1 : aa) : Int :=
 LET (jd x0.Header x1.Header) fun y101 =>
 LET (jd x0.Field x1.Field) fun y102 =>
 LET (ny ([y101, y102] : List Int)) fun y104 =>
 y104
def il (l : List aa) : List aa := l.mergeSort fun x y => !decide (iw y x < 0)
def dz (l : List aa) : List aa := l.mergeSort fun x y => !decide (dj y x < 0)
def fw (l : List aa) : List aa := cpt l
def ga (x0 : List ab) (K0 : (List aa) → (List aa)) : Nat → Int → (List aa) → (List aa)
 | 0, x8_, zE102 => K0 zE102
 | m + 1, x8_, zE102 =>
   if (decide (((ix x0 x8_).Op) = 2)) then
    ga x0 K0 m (x8_ + 1) (zE102 ++ ([({ Header := (ix x0 x8_).N, Field := (ix x0 x8_).W } : aa)] : List aa))
   else
   ga x0 K0 m (x8_ + 1) zE102
def jv (x0 : List ab) : (List aa) :=
 ga x0 (fun (zE102_112 : List aa) =>
  LET (il zE102_112) fun y113 =>
  LET (fw y113) fun y115 =>
  y115) (Int.toNat ((x0.length : Int) - 0)) 0 ([] : List aa)
def dq (l : List Int) : List Int := l.mergeSort fun x y => decide (x ≤ y)
def jq (l : List Int) : List Int := cpt l
def fg (x0 : List ab) (K0 : (List Int) → (List Int)) : Nat → Int → (List Int) → (List Int)
 | 0, x8_, zE102 => K0 zE102
 | m + 1, x8_, zE102 =>
   if (decide (((ix x0 x8_).Op) = 4)) then
    fg x0 K0 m (x8_ + 1) (zE102 ++ ([(ix x0 x8_).N] : List Int))
   else
   fg x0 K0 m (x8_ + 1) zE102
def jb (x0 : List ab) : (List Int) :=
 fg x0 (fun (zE102_112 : List Int) =>
  LET (dq zE102_112) fun y113 =>
  LET (jq y113) fun y115 =>
  y115) (Int.toNat ((x0.length : Int) - 0)) 0 ([] : List Int)
def cw (x0 : bd) (x1 : List ab) : bd :=
 LET (jv x1) fun y101 =>
 LET (jb x1) fun y105 =>
 ({ fields := (x0.fields ++ y101), headers := (x0.headers ++ y105), registers := x0.registers } : bd)
def ct (x0 : bd) : (List aa) × (List Int) × (List Int) :=
 LET (dz x0.fields) fun y102 =>
 LET (dq x0.headers) fun y104 =>
 LET (dq x0.registers) fun y106 =>
 LET (fw y102) fun y108 =>
 LET (jq y104) fun y111 =>
 LET (jq y106) fun y114 =>
 (y108, y111, y114)
def gb (y103 : (List aj)) (K0 : bd → ((List aa) × (List Int) × (List Int))) : Nat → Int → bd → ((List aa) × (List Int) × (List Int))
 | 0, x14_, zE102 => K0 zE102
 | m + 1, x14_, zE102 =>
   LET (fun (zE102_143 : bd) =>
    if (((decide (((ix y103 x14_).Kind) = 1)) || (decide (((ix y103 x14_).Kind) = 4))) && (!decide ((((ix y103 x14_).Dst).Header) = (-1)))) then
     gb y103 K0 m (x14_ + 1) ({ fields := zE102_143.fields, headers := (zE102_143.headers ++ ([((ix y103 x14_).Dst).Header] : List Int)), registers := zE102_143.registers } : bd)
    else
    gb y103 K0 m (x14_ + 1) ({ fields := zE102_143.fields, headers := zE102_143.headers, registers := zE102_143.registers } : bd)) fun k143 =>
   if (decide (((ix y103 x14_).Kind) = 1)) then
    LET (cw ({ fields := zE102.fields, headers := zE102.headers, registers := zE102.registers } : bd) ((ix y103 x14_).Value)) fun y155 =>
    k143 ({ fields := y155.fields, headers := y155.headers, registers := y155.registers } : bd)
   else
   if (decide (((ix y103 x14_).Kind) = 2)) then
    k143 ({ fields := zE102.fields, headers := (zE102.headers ++ ([(ix y103 x14_).Header] : List Int)), registers := zE102.registers } : bd)
   else
   if (decide (((ix y103 x14_).Kind) = 4)) then
    LET (cw ({ fields := zE102.fields, headers := zE102.headers, registers := zE102.registers } : bd) ((ix y103 x14_).Index)) fun y165 =>
    k143 ({ fields := y165.fields, headers := y165.headers, registers := (y165.registers ++ ([(ix y103 x14_).Register] : List Int)) } : bd)
   else
   if (decide (((ix y103 x14_).Kind) = 5)) then
    LET (cw ({ fields := zE102.fields, headers := zE102.headers, registers := zE102.registers } : bd) ((ix y103 x14_).Index)) fun y174 =>
    LET (cw ({ fields := y174.fields, headers := y174.headers, registers := y174.registers } : bd) ((ix y103 x14_).Value)) fun y178 =>
    k143 ({ fields := y178.fields, headers := y178.headers, registers := y178.registers } : bd)
   else
   k143 ({ fields := zE102.fields, headers := zE102.headers, registers := zE102.registers } : bd)
def lg (x0 : af) (x1 : Int) : (List aa) × (List Int) × (List Int) :=
 LET (jh x0 x1) fun y103 =>
 gb y103 (fun (zE102_181 : bd) =>
  LET (ct ({ fields := zE102_181.fields, headers := zE102_181.headers, registers := zE102_181.registers } : bd)) fun y182 =>
  (y182.1, y182.2.1, y182.2.2)) (Int.toNat ((y103.length : Int) - 0)) 0 ({ fields := ([] : List aa), headers := ([] : List Int), registers := ([] : List Int) } : bd)
def gi (x0 : aa) (x1 : aa) : Bool :=
 ((decide (x0.Header < x1.Header)) || ((decide (x0.Header = x1.Header)) && (decide (x0.Field < x1.Field))))
def dt (x0 : List aa) (x1 : aa) (K0 : Bool → (List aa) → (List aa)) : Nat → Bool → Int → (List aa) → (List aa)
 | 0, x6_, x7_, zE102 => K0 x6_ zE102
 | m + 1, x6_, x7_, zE102 =>
   if ((!x6_) && (!(gi (ix x0 x7_) x1))) then
    if (!decide ((ix x0 x7_) = x1)) then
     dt x0 x1 K0 m true (x7_ + 1) ((zE102 ++ ([x1] : List aa)) ++ ([(ix x0 x7_)] : List aa))
    else
    dt x0 x1 K0 m true (x7_ + 1) (zE102 ++ ([(ix x0 x7_)] : List aa))
   else
   dt x0 x1 K0 m x6_ (x7_ + 1) (zE102 ++ ([(ix x0 x7_)] : List aa))
def ia (x0 : List aa) (x1 : aa) : (List aa) :=
 dt x0 x1 (fun (x6_122 : Bool) (zE102_122 : List aa) =>
  if (!x6_122) then
   (zE102_122 ++ ([x1] : List aa))
  else
  zE102_122) (Int.toNat ((x0.length : Int) - 0)) false 0 ([] : List aa)
def ie (x0 : List ab) (K0 : (List aa) → (List aa)) : Nat → (List aa) → Int → (List aa)
 | 0, x3_, x4_ => K0 x3_
 | m + 1, x3_, x4_ =>
   if (decide (((ix x0 x4_).Op) = 2)) then
    LET (ia x3_ ({ Header := (ix x0 x4_).N, Field := (ix x0 x4_).W } : aa)) fun y107 =>
    ie x0 K0 m y107 (x4_ + 1)
   else
   ie x0 K0 m x3_ (x4_ + 1)
def lf (x0 : List ab) : (List aa) :=
 ie x0 (fun (x3_109 : List aa) =>
  x3_109) (Int.toNat ((x0.length : Int) - 0)) ([] : List aa) 0
def en (x0 : List Int) (x1 : Int) (K0 : Bool → (List Int) → (List Int)) : Nat → Bool → Int → (List Int) → (List Int)
 | 0, x6_, x7_, zE102 => K0 x6_ zE102
 | m + 1, x6_, x7_, zE102 =>
   if ((!x6_) && (decide (x1 ≤ (ix x0 x7_)))) then
    if (!decide ((ix x0 x7_) = x1)) then
     en x0 x1 K0 m true (x7_ + 1) ((zE102 ++ ([x1] : List Int)) ++ ([(ix x0 x7_)] : List Int))
    else
    en x0 x1 K0 m true (x7_ + 1) (zE102 ++ ([(ix x0 x7_)] : List Int))
   else
   en x0 x1 K0 m x6_ (x7_ + 1) (zE102 ++ ([(ix x0 x7_)] : List Int))
def ep (x0 : List Int) (x1 : Int) : (List Int) :=
 en x0 x1 (fun (x6_116 : Bool) (zE102_116 : List Int) =>
  if (!x6_116) then
   (zE102_116 ++ ([x1] : List Int))
  else
  zE102_116) (Int.toNat ((x0.length : Int) - 0)) false 0 ([] : List Int)
def gx (x0 : List ab) (K0 : (List Int) → (List Int)) : Nat → (List Int) → Int → (List Int)
 | 0, x3_, x4_ => K0 x3_
 | m + 1, x3_, x4_ =>
   if (decide (((ix x0 x4_).Op) = 4)) then
    LET (ep x3_ ((ix x0 x4_).N)) fun y106 =>
    gx x0 K0 m y106 (x4_ + 1)
   else
   gx x0 K0 m x3_ (x4_ + 1)
def ki (x0 : List ab) : (List Int) :=
 gx x0 (fun (x3_108 : List Int) =>
  x3_108) (Int.toNat ((x0.length : Int) - 0)) ([] : List Int) 0
def iq (y105 : (List aa)) (K0 : ah → ah) : Nat → Int → ah → ah
 | 0, x7_, zE102 => K0 zE102
 | m + 1, x7_, zE102 =>
   LET (ia zE102.Fields (ix y105 x7_)) fun y114 =>
   iq y105 K0 m (x7_ + 1) ({ Fields := y114, Headers := zE102.Headers, Registers := zE102.Registers } : ah)
def ir (y107 : (List Int)) (K2 : ah → ah) : Nat → Int → ah → ah
 | 0, x8_, zE102 => K2 zE102
 | m + 1, x8_, zE102 =>
   LET (ep zE102.Headers (ix y107 x8_)) fun y122 =>
   ir y107 K2 m (x8_ + 1) ({ Fields := zE102.Fields, Headers := y122, Registers := zE102.Registers } : ah)
def kh (x0 : ah) (x1 : List ab) : ah :=
 LET (lf x1) fun y105 =>
 LET (ki x1) fun y107 =>
 iq y105 (fun (zE102_118 : ah) =>
  ir y107 (fun (zE102_126 : ah) =>
   zE102_126) (Int.toNat ((y107.length : Int) - 0)) 0 zE102_118) (Int.toNat ((y105.length : Int) - 0)) 0 x0
def jc (x0 : af) (x1 : Int) (K0 : ah → ((List aa) × (List Int) × (List Int))) : Nat → Int → ah → ((List aa) × (List Int) × (List Int))
 | 0, x11_, zE104 => K0 zE104
 | m + 1, x11_, zE104 =>
   LET (fun (zE104_121 : ah) =>
    LET (fun (zE104_128 : ah) =>
     LET (fun (zE104_139 : ah) =>
      LET (fun (zE104_146 : ah) =>
       if (decide (((ix ((ix x0.Actions x1).Body) x11_).Kind) = 4)) then
        LET (ep zE104_146.Registers ((ix ((ix x0.Actions x1).Body) x11_).Register)) fun y149 =>
        jc x0 x1 K0 m (x11_ + 1) ({ Fields := zE104_146.Fields, Headers := zE104_146.Headers, Registers := y149 } : ah)
       else
       jc x0 x1 K0 m (x11_ + 1) zE104_146) fun k146 =>
      if (decide (((ix ((ix x0.Actions x1).Body) x11_).Kind) = 2)) then
       LET (ep zE104_139.Headers ((ix ((ix x0.Actions x1).Body) x11_).Header)) fun y155 =>
       k146 ({ Fields := zE104_139.Fields, Headers := y155, Registers := zE104_139.Registers } : ah)
      else
      k146 zE104_139) fun k139 =>
     if (((decide (((ix ((ix x0.Actions x1).Body) x11_).Kind) = 1)) || (decide (((ix ((ix x0.Actions x1).Body) x11_).Kind) = 4))) && (!decide ((((ix ((ix x0.Actions x1).Body) x11_).Dst).Header) = (-1)))) then
      LET (ep zE104_128.Headers (((ix ((ix x0.Actions x1).Body) x11_).Dst).Header)) fun y162 =>
      k139 ({ Fields := zE104_128.Fields, Headers := y162, Registers := zE104_128.Registers } : ah)
     else
     k139 zE104_128) fun k128 =>
    if ((decide (((ix ((ix x0.Actions x1).Body) x11_).Kind) = 1)) || (decide (((ix ((ix x0.Actions x1).Body) x11_).Kind) = 5))) then
     LET (kh zE104_121 ((ix ((ix x0.Actions x1).Body) x11_).Value)) fun y168 =>
     k128 y168
    else
    k128 zE104_121) fun k121 =>
   if ((decide (((ix ((ix x0.Actions x1).Body) x11_).Kind) = 4)) || (decide (((ix ((ix x0.Actions x1).Body) x11_).Kind) = 5))) then
    LET (kh zE104 ((ix ((ix x0.Actions x1).Body) x11_).Index)) fun y173 =>
    k121 y173
   else
   k121 zE104
def lx (x0 : af) (x1 : Int) : (List aa) × (List Int) × (List Int) :=
 LET (jf x0 x1) fun y101 =>
 if (!decide (y101.2 = 0)) then
  (([] : List aa), ([] : List Int), ([] : List Int))
 else
 jc x0 x1 (fun (zE104_176 : ah) =>
  (zE104_176.Fields, zE104_176.Headers, zE104_176.Registers)) (Int.toNat ((((ix x0.Actions x1).Body).length : Int) - 0)) 0 ({ Fields := ([] : List aa), Headers := ([] : List Int), Registers := ([] : List Int) } : ah)
def ip (y103 : (List aj)) (x15_ : Int) (K3 : (List Int) → (List Int) → (List aa) → ((List aa) × (List Int) × (List Int))) : Nat → Int → (List Int) → (List Int) → (List aa) → ((List aa) × (List Int) × (List Int))
 | 0, x49_, zE110n2, zE108n2, zE106n2 => K3 zE110n2 zE108n2 zE106n2
 | m + 1, x49_, zE110n2, zE108n2, zE106n2 =>
   ip y103 x15_ K3 m (x49_ + 1) zE110n2 zE108n2 (zE106n2 ++ ([({ Header := (ix y103 x15_).Header, Field := x49_ } : aa)] : List aa))
def du (x0 : af) (y103 : (List aj)) (K0 : (List Int) → (List Int) → (List aa) → ((List aa) × (List Int) × (List Int))) : Nat → Int → (List Int) → (List Int) → (List aa) → ((List aa) × (List Int) × (List Int))
 | 0, x15_, zE110, zE108, zE106 => K0 zE110 zE108 zE106
 | m + 1, x15_, zE110, zE108, zE106 =>
   LET (fun (x21_118 : Bool) =>
    if x21_118 then
     du x0 y103 K0 m (x15_ + 1) zE110 zE108 (zE106 ++ ([(ix y103 x15_).Dst] : List aa))
    else
    LET (fun (x31_125 : Bool) =>
     if x31_125 then
      ip y103 x15_ (fun (zE110n2_138 : List Int) (zE108n2_138 : List Int) (zE106n2_138 : List aa) =>
       du x0 y103 K0 m (x15_ + 1) zE110n2_138 zE108n2_138 zE106n2_138) (Int.toNat ((((ix x0.Headers ((ix y103 x15_).Header)).Fields).length : Int) - 0)) 0 zE110 (zE108 ++ ([(ix y103 x15_).Header] : List Int)) zE106
     else
     if (decide (((ix y103 x15_).Kind) = 5)) then
      du x0 y103 K0 m (x15_ + 1) (zE110 ++ ([(ix y103 x15_).Register] : List Int)) zE108 zE106
     else
     du x0 y103 K0 m (x15_ + 1) zE110 zE108 zE106) fun k125 =>
    if (decide (((ix y103 x15_).Kind) = 2)) then
     k125 (decide (((ix y103 x15_).Kind) = 2))
    else
    k125 (decide (((ix y103 x15_).Kind) = 3))) fun k118 =>
   if (decide (((ix y103 x15_).Kind) = 1)) then
    k118 (decide (((ix y103 x15_).Kind) = 1))
   else
   k118 (decide (((ix y103 x15_).Kind) = 4))
def kd (x0 : af) (x1 : Int) : (List aa) × (List Int) × (List Int) :=
 LET (jh x0 x1) fun y103 =>
 du x0 y103 (fun (zE110_145 : List Int) (zE108_145 : List Int) (zE106_145 : List aa) =>
  LET (ct ({ fields := zE106_145, headers := zE108_145, registers := zE110_145 } : bd)) fun y146 =>
  (y146.1, y146.2.1, y146.2.2)) (Int.toNat ((y103.length : Int) - 0)) 0 ([] : List Int) ([] : List Int) ([] : List aa)
def jg (x0 : af) (x1 : Int) (x11_ : Int) (K3 : ah → ((List aa) × (List Int) × (List Int))) : Nat → Int → ah → ((List aa) × (List Int) × (List Int))
 | 0, x13_, zE104n2 => K3 zE104n2
 | m + 1, x13_, zE104n2 =>
   LET (ia zE104n2.Fields ({ Header := (ix ((ix x0.Actions x1).Body) x11_).Header, Field := x13_ } : aa)) fun y136 =>
   jg x0 x1 x11_ K3 m (x13_ + 1) ({ Fields := y136, Headers := zE104n2.Headers, Registers := zE104n2.Registers } : ah)
def fh (x0 : af) (x1 : Int) (K0 : ah → ((List aa) × (List Int) × (List Int))) : Nat → Int → ah → ((List aa) × (List Int) × (List Int))
 | 0, x11_, zE104 => K0 zE104
 | m + 1, x11_, zE104 =>
   LET (fun (x47_116 : Bool) =>
    if x47_116 then
     LET (ia zE104.Fields ((ix ((ix x0.Actions x1).Body) x11_).Dst)) fun y120 =>
     fh x0 x1 K0 m (x11_ + 1) ({ Fields := y120, Headers := zE104.Headers, Registers := zE104.Registers } : ah)
    else
    LET (fun (x56_125 : Bool) =>
     if x56_125 then
      jg x0 x1 x11_ (fun (zE104n2_140 : ah) =>
       LET (ep zE104n2_140.Headers ((ix ((ix x0.Actions x1).Body) x11_).Header)) fun y142 =>
       fh x0 x1 K0 m (x11_ + 1) ({ Fields := zE104n2_140.Fields, Headers := y142, Registers := zE104n2_140.Registers } : ah)) (Int.toNat ((((ix x0.Headers ((ix ((ix x0.Actions x1).Body) x11_).Header)).Fields).length : Int) - 0)) 0 zE104
     else
     LET (ep zE104.Registers ((ix ((ix x0.Actions x1).Body) x11_).Register)) fun y147 =>
     fh x0 x1 K0 m (x11_ + 1) ({ Fields := zE104.Fields, Headers := zE104.Headers, Registers := y147 } : ah)) fun k125 =>
    if (decide (((ix ((ix x0.Actions x1).Body) x11_).Kind) = 2)) then
     k125 (decide (((ix ((ix x0.Actions x1).Body) x11_).Kind) = 2))
    else
    k125 (decide (((ix ((ix x0.Actions x1).Body) x11_).Kind) = 3))) fun k116 =>
   if (decide (((ix ((ix x0.Actions x1).Body) x11_).Kind) = 1)) then
    k116 (decide (((ix ((ix x0.Actions x1).Body) x11_).Kind) = 1))
   else
   k116 (decide (((ix ((ix x0.Actions x1).Body) x11_).Kind) = 4))
def lj (x0 : af) (x1 : Int) : (List aa) × (List Int) × (List Int) :=
 LET (jf x0 x1) fun y101 =>
 if (!decide (y101.2 = 0)) then
  (([] : List aa), ([] : List Int), ([] : List Int))
 else
 fh x0 x1 (fun (zE104_153 : ah) =>
  (zE104_153.Fields, zE104_153.Headers, zE104_153.Registers)) (Int.toNat ((((ix x0.Actions x1).Body).length : Int) - 0)) 0 ({ Fields := ([] : List aa), Headers := ([] : List Int), Registers := ([] : List Int) } : ah)
def ow (x0 : BitVec 32) (x1 : Int) : Bool :=
 LET (li ([x1] : List Int)) fun y102 =>
 (y102 && (decide (x0 ≤ (gv x1))))
def gz (x0 : af) (x1 : bb) (K0 : Unit → Int) : Nat → Int → Int
 | 0, x35_ => K0 ()
 | m + 1, x35_ =>
   LET (ow (ix x1.Args x35_) ((ix ((ix x0.Actions x1.Action).Params) x35_).Width)) fun y113 =>
   if (!y113) then
    9
   else
   gz x0 x1 K0 m (x35_ + 1)
def kp (x0 : af) (x1 : bb) : Int :=
 if ((decide (x1.Action < 0)) || (decide ((x0.Actions.length : Int) ≤ x1.Action))) then
  8
 else
 if (!decide ((x1.Args.length : Int) = (((ix x0.Actions x1.Action).Params).length : Int))) then
  2
 else
 gz x0 x1 (fun (_ : Unit) =>
  0) (Int.toNat ((x1.Args.length : Int) - 0)) 0
def pp (x0 : BitVec 32) (x1 : Int) : Bool :=
 LET (im x1) fun y101 =>
 (y101 && (decide ((BitVec.setWidth 64 x0) < (lr x1))))
def ij (x0 : af) (x1 : bb) (K0 : Unit → Int) : Nat → Int → Int
 | 0, x6_ => K0 ()
 | m + 1, x6_ =>
   LET (pp (ix x1.Args x6_) ((ix ((ix x0.Actions x1.Action).Params) x6_).Width)) fun y113 =>
   if (!y113) then
    9
   else
   ij x0 x1 K0 m (x6_ + 1)
def ld (x0 : af) (x1 : bb) : Int :=
 if ((decide (x1.Action < 0)) || (decide ((x0.Actions.length : Int) ≤ x1.Action))) then
  8
 else
 if (!decide ((x1.Args.length : Int) = (((ix x0.Actions x1.Action).Params).length : Int))) then
  2
 else
 ij x0 x1 (fun (_ : Unit) =>
  0) (Int.toNat ((((ix x0.Actions x1.Action).Params).length : Int) - 0)) 0
def fk (x0 : List aa) (x1 : List aa) (K0 : Unit → Bool) : Nat → Int → Bool
 | 0, x5_ => K0 ()
 | m + 1, x5_ =>
   if (!decide ((ix x0 x5_) = (ix x1 x5_))) then
    false
   else
   fk x0 x1 K0 m (x5_ + 1)
def dv (x0 : List aa) (x1 : List aa) : Bool :=
 if (!decide ((x0.length : Int) = (x1.length : Int))) then
  false
 else
 fk x0 x1 (fun (_ : Unit) =>
  true) (Int.toNat ((x0.length : Int) - 0)) 0
def gq (x0 : List Int) (x1 : List Int) (K0 : Unit → Bool) : Nat → Int → Bool
 | 0, x5_ => K0 ()
 | m + 1, x5_ =>
   if (!decide ((ix x0 x5_) = (ix x1 x5_))) then
    false
   else
   gq x0 x1 K0 m (x5_ + 1)
def bt (x0 : List Int) (x1 : List Int) : Bool :=
 if (!decide ((x0.length : Int) = (x1.length : Int))) then
  false
 else
 gq x0 x1 (fun (_ : Unit) =>
  true) (Int.toNat ((x0.length : Int) - 0)) 0
def kv (x0 : af) (x1 : Int) (x2 : bb) : Bool :=
 LET (ot x0) fun y101 =>
 if ((!y101) || (decide (40 < (x2.Args.length : Int)))) then
  LET (oq) fun y105 =>
  y105
 else
 LET (iz x0 x1) fun y106 =>
 LET (jf x0 x1) fun y107 =>
 LET (lg x0 x1) fun y108 =>
 LET (lx x0 x1) fun y112 =>
 LET (kd x0 x1) fun y116 =>
 LET (lj x0 x1) fun y120 =>
 if (((!decide (y106.1 = y107.1)) || (!decide (y106.2 = y107.2))) || (!decide ((kp x0 x2) = (ld x0 x2)))) then
  false
 else
 LET (dv y108.1 y112.1) fun y129 =>
 ((((((y129 && (bt y108.2.1 y112.2.1)) && (bt y108.2.2 y112.2.2)) && (dv y116.1 y120.1)) && (bt y116.2.1 y120.2.1)) && (bt y116.2.2 y120.2.2)) && (oq))
end Go.Proofs.YtmonnlkagniolaaGreat
