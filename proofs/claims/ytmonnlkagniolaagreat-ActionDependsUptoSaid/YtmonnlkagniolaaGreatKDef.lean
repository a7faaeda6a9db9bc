import Derived.Test.YtmonnlkagniolaaGreatKTy
import Derived.Test.YtmonnlkagniolaaGreatPbC
import Derived.Test.YtmonnlkagniolaaGreatPbV
import Derived.Test.YtmonnlkagniolaaGreatKEp
set_option linter.unusedVariables false
set_option linter.unusedSimpArgs false
set_option maxRecDepth 100000
namespace Go.Proofs.YtmonnlkagniolaaGreat
open Go Go.Pb Go.RowKit
def mn (x0 : ae) (x3_ : Int) (K2 : Unit → Bool) : Nat → Int → Bool
 | 0, x4_ => K2 ()
 | m + 1, x4_ =>
   if ((decide (60 < (((ix ((ix x0.Actions x3_).Body) x4_).Index).length : Int))) || (decide (60 < (((ix ((ix x0.Actions x3_).Body) x4_).Value).length : Int)))) then
    false
   else
   mn x0 x3_ K2 m (x4_ + 1)
def mo (x0 : ae) (K0 : Unit → Bool) : Nat → Int → Bool
 | 0, x3_ => K0 ()
 | m + 1, x3_ =>
   if ((decide (20 < (((ix x0.Actions x3_).Params).length : Int))) || (decide (30 < (((ix x0.Actions x3_).Body).length : Int)))) then
    false
   else
   mn x0 x3_ (fun (_ : Unit) =>
    mo x0 K0 m (x3_ + 1)) (Int.toNat ((((ix x0.Actions x3_).Body).length : Int) - 0)) 0
def mr (x0 : ae) (K4 : Unit → Bool) : Nat → Int → Bool
 | 0, x5_ => K4 ()
 | m + 1, x5_ =>
   if (decide (40 < (((ix x0.Headers x5_).Fields).length : Int))) then
    false
   else
   mr x0 K4 m (x5_ + 1)
def pb (x0 : ae) (K6 : Unit → Bool) : Nat → Int → Bool
 | 0, x6_ => K6 ()
 | m + 1, x6_ =>
   if (decide (200 < ((ix x0.Registers x6_).Size))) then
    false
   else
   pb x0 K6 m (x6_ + 1)
def qv (x0 : ae) : Bool :=
 if ((((decide (20 < (x0.Headers.length : Int))) || (decide (30 < (x0.Metadata.length : Int)))) || (decide (20 < (x0.Registers.length : Int)))) || (decide (40 < (x0.Actions.length : Int)))) then
  false
 else
 mo x0 (fun (_ : Unit) =>
  mr x0 (fun (_ : Unit) =>
   pb x0 (fun (_ : Unit) =>
    true) (Int.toNat ((x0.Registers.length : Int) - 0)) 0) (Int.toNat ((x0.Headers.length : Int) - 0)) 0) (Int.toNat ((x0.Actions.length : Int) - 0)) 0
def lk (x0 : ae) (x1 : av) (K0 : Unit → Bool) : Nat → Int → Bool
 | 0, x5_ => K0 ()
 | m + 1, x5_ =>
   if (!decide (((ix x1.Fields x5_).length : Int) = (((ix x0.Headers x5_).Fields).length : Int))) then
    false
   else
   lk x0 x1 K0 m (x5_ + 1)
def ka (x0 : ae) (x1 : av) : Bool :=
 if (((!decide ((x1.Valid.length : Int) = (x0.Headers.length : Int))) || (!decide ((x1.Fields.length : Int) = (x0.Headers.length : Int)))) || (!decide ((x1.Metd.length : Int) = (x0.Metadata.length : Int)))) then
  false
 else
 lk x0 x1 (fun (_ : Unit) =>
  true) (Int.toNat ((x0.Headers.length : Int) - 0)) 0
def jt (x0 : ae) (x1 : aa) : Int :=
 LET (fun (x5_108 : List ay) =>
  if (((((decide (x1.Header < (-1))) || (decide (x1.Field < 0))) || (decide ((x5_108.length : Int) ≤ x1.Field))) || (decide (((ix x5_108 x1.Field).Width) < 1))) || (decide (32 < ((ix x5_108 x1.Field).Width)))) then
   0
  else
  (ix x5_108 x1.Field).Width) fun k108 =>
 if (decide (0 ≤ x1.Header)) then
  if (decide ((x0.Headers.length : Int) ≤ x1.Header)) then
   0
  else
  k108 ((ix x0.Headers x1.Header).Fields)
 else
 k108 x0.Metadata
def mg (K0 : (BitVec 64) → Bool) : Nat → (BitVec 64) → Int → Bool
 | 0, x5_, x6_ => K0 x5_
 | m + 1, x5_, x6_ =>
   mg K0 m (2#64 * x5_) (x6_ + 1)
def pp (x0 : BitVec 32) (x1 : Int) : Bool :=
 mg (fun (x5_103 : BitVec 64) =>
  (decide ((BitVec.setWidth 64 x0) < x5_103))) (Int.toNat (x1 - 0)) 1#64 0
def lp (x0 : ae) (x1 : av) (x5_ : Int) (K2 : Unit → Int) : Nat → Int → Int
 | 0, x6_ => K2 ()
 | m + 1, x6_ =>
   LET (jt x0 ({ Header := x5_, Field := x6_ } : aa)) fun y115 =>
   LET (pp (ix (ix x1.Fields x5_) x6_) y115) fun y116 =>
   if (!y116) then
    9
   else
   lp x0 x1 x5_ K2 m (x6_ + 1)
def lh (x0 : ae) (x1 : av) (K0 : Unit → Int) : Nat → Int → Int
 | 0, x5_ => K0 ()
 | m + 1, x5_ =>
   lp x0 x1 x5_ (fun (_ : Unit) =>
    lh x0 x1 K0 m (x5_ + 1)) (Int.toNat (((ix x1.Fields x5_).length : Int) - 0)) 0
def ld (x0 : ae) (x1 : av) (K4 : Unit → Int) : Nat → Int → Int
 | 0, x7_ => K4 ()
 | m + 1, x7_ =>
   LET (jt x0 ({ Header := (-1), Field := x7_ } : aa)) fun y125 =>
   LET (pp (ix x1.Metd x7_) y125) fun y126 =>
   if (!y126) then
    9
   else
   ld x0 x1 K4 m (x7_ + 1)
def lg (x1 : av) (x8_ : Int) (K8 : Unit → Int) : Nat → Int → Int
 | 0, x9_ => K8 ()
 | m + 1, x9_ =>
   if ((!(ix x1.Valid x8_)) && (!decide ((ix (ix x1.Fields x8_) x9_) = 0#32))) then
    5
   else
   lg x1 x8_ K8 m (x9_ + 1)
def lf (x1 : av) (K6 : Unit → Int) : Nat → Int → Int
 | 0, x8_ => K6 ()
 | m + 1, x8_ =>
   lg x1 x8_ (fun (_ : Unit) =>
    lf x1 K6 m (x8_ + 1)) (Int.toNat (((ix x1.Fields x8_).length : Int) - 0)) 0
def qt (x0 : ae) (x1 : av) : Int :=
 LET (ka x0 x1) fun y101 =>
 if (!y101) then
  2
 else
 lh x0 x1 (fun (_ : Unit) =>
  ld x0 x1 (fun (_ : Unit) =>
   lf x1 (fun (_ : Unit) =>
    0) (Int.toNat ((x1.Fields.length : Int) - 0)) 0) (Int.toNat ((x1.Metd.length : Int) - 0)) 0) (Int.toNat ((x1.Fields.length : Int) - 0)) 0
def li (x0 : cp) : Int :=
 if ((decide (x0.Width < 1)) || (decide (32 < x0.Width))) then
  0
 else
 x0.Width
def gy (x0 : ae) (x1 : List (List (BitVec 32))) (K0 : Unit → Int) : Nat → Int → Int
 | 0, x5_ => K0 ()
 | m + 1, x5_ =>
   if (!decide (((ix x1 x5_).length : Int) = ((ix x0.Registers x5_).Size))) then
    2
   else
   gy x0 x1 K0 m (x5_ + 1)
def gx (x0 : ae) (x1 : List (List (BitVec 32))) (x6_ : Int) (K4 : Unit → Int) : Nat → Int → Int
 | 0, x7_ => K4 ()
 | m + 1, x7_ =>
   LET (li (ix x0.Registers x6_)) fun y119 =>
   LET (pp (ix (ix x1 x6_) x7_) y119) fun y120 =>
   if (!y120) then
    9
   else
   gx x0 x1 x6_ K4 m (x7_ + 1)
def gu (x0 : ae) (x1 : List (List (BitVec 32))) (K2 : Unit → Int) : Nat → Int → Int
 | 0, x6_ => K2 ()
 | m + 1, x6_ =>
   gx x0 x1 x6_ (fun (_ : Unit) =>
    gu x0 x1 K2 m (x6_ + 1)) (Int.toNat (((ix x1 x6_).length : Int) - 0)) 0
def ko (x0 : ae) (x1 : List (List (BitVec 32))) : Int :=
 if (!decide ((x1.length : Int) = (x0.Registers.length : Int))) then
  2
 else
 gy x0 x1 (fun (_ : Unit) =>
  gu x0 x1 (fun (_ : Unit) =>
   0) (Int.toNat ((x1.length : Int) - 0)) 0) (Int.toNat ((x1.length : Int) - 0)) 0
def mf (x0 : az) : Bool :=
 LET (qt x0.P x0.E) fun y103 =>
 ((decide (y103 = 0)) && (decide ((ko x0.P x0.Regs) = 0)))
def qs : Bool := true
def ow (x0 : UInt8) : Bool :=
 (((decide ((97 : UInt8) ≤ x0)) && (decide (x0 ≤ (122 : UInt8)))) || ((decide ((65 : UInt8) ≤ x0)) && (decide (x0 ≤ (90 : UInt8)))))
def oe (x0 : List UInt8) (x1 : UInt8 → Bool) (K0 : Int → Int) : Nat → Int → Int
 | 0, x5_ => K0 x5_
 | m + 1, x5_ =>
   if ((decide (x5_ < (x0.length : Int))) && (x1 (ix x0 x5_))) then
    oe x0 x1 K0 m (x5_ + 1)
   else
   K0 x5_
def tn (x0 : List UInt8) (x1 : UInt8 → Bool) : Int :=
 oe x0 x1 (fun (x5_107 : Int) =>
  x5_107) (Int.toNat ((x0.length : Int) - 0)) 0
def oi (x0 : UInt8) : Bool :=
 ((decide ((48 : UInt8) ≤ x0)) && (decide (x0 ≤ (57 : UInt8))))
def nh (x0 : UInt8) : Bool :=
 LET (ow x0) fun y101 =>
 ((y101 || (oi x0)) || (decide (x0 = (95 : UInt8))))
def ml (x0 : List UInt8) : Bool :=
 if (((decide ((x0.length : Int) = 0)) || (decide (16 < (x0.length : Int)))) || (!(ow (ix x0 0)))) then
  false
 else
 LET (tn x0 nh) fun y105 =>
 (decide (y105 = (x0.length : Int)))
def ni (x0 : ay) (c0 : ay) : Bool :=
 (decide (x0.Name = c0.Name))
def fq (x0 : List ay) (x1 : ay → Bool) (K0 : Unit → Int) : Nat → Int → Int
 | 0, x8_ => K0 ()
 | m + 1, x8_ =>
   if (x1 (ix x0 x8_)) then
    x8_
   else
   fq x0 x1 K0 m (x8_ + 1)
def jl (x0 : List ay) (x1 : ay → Bool) : Int :=
 fq x0 x1 (fun (_ : Unit) =>
  (-1)) (Int.toNat ((x0.length : Int) - 0)) 0
def ja (x0 : List ay) (x1 : ay → Bool) : Bool :=
 LET (jl x0 x1) fun y101 =>
 (decide (0 ≤ y101))
def ku (x0 : cb) (K1 : Unit → Int) : Nat → Int → Int
 | 0, x24_ => K1 ()
 | m + 1, x24_ =>
   LET (ml ((ix x0.Params x24_).Name)) fun y114 =>
   if (!y114) then
    6
   else
   if ((decide (((ix x0.Params x24_).Width) < 1)) || (decide (32 < ((ix x0.Params x24_).Width)))) then
    10
   else
   LET (ja (sub x0.Params 0 x24_) (fun a_ => ni a_ (ix x0.Params x24_))) fun y122 =>
   if y122 then
    7
   else
   ku x0 K1 m (x24_ + 1)
def jy (x0 : cb) : Int :=
 LET (ml x0.Name) fun y101 =>
 if (!y101) then
  6
 else
 if ((decide (4 < (x0.Params.length : Int))) || (decide (12 < (x0.Body.length : Int)))) then
  12
 else
 ku x0 (fun (_ : Unit) =>
  0) (Int.toNat ((x0.Params.length : Int) - 0)) 0
def qz (x0 : ae) (x1 : aa) : Int × Bool :=
 LET (fun (x6_109 : List ay) =>
  if ((decide (x1.Field < 0)) || (decide ((x6_109.length : Int) ≤ x1.Field))) then
   (0, false)
  else
  ((ix x6_109 x1.Field).Width, true)) fun k109 =>
 if (!decide (x1.Header = (-1))) then
  if ((decide (x1.Header < 0)) || (decide ((x0.Headers.length : Int) ≤ x1.Header))) then
   (0, false)
  else
  k109 ((ix x0.Headers x1.Header).Fields)
 else
 k109 x0.Metadata
def dw (x0 : Int) : Int :=
 LET (fun (x4_104 : Bool) =>
  if x4_104 then
   0
  else
  LET (fun (x9_109 : Bool) =>
   if x9_109 then
    1
   else
   LET (fun (x14_118 : Bool) =>
    if x14_118 then
     2
    else
    if (decide (x0 = 17)) then
     3
    else
    (-1)) fun k118 =>
   if (decide (x0 = 9)) then
    k118 (decide (x0 = 9))
   else
   if (decide (x0 = 10)) then
    k118 (decide (x0 = 10))
   else
   if (decide (x0 = 11)) then
    k118 (decide (x0 = 11))
   else
   if (decide (x0 = 12)) then
    k118 (decide (x0 = 12))
   else
   if (decide (x0 = 13)) then
    k118 (decide (x0 = 13))
   else
   if (decide (x0 = 14)) then
    k118 (decide (x0 = 14))
   else
   if (decide (x0 = 15)) then
    k118 (decide (x0 = 15))
   else
   k118 (decide (x0 = 16))) fun k109 =>
  if (decide (x0 = 5)) then
   k109 (decide (x0 = 5))
  else
  if (decide (x0 = 6)) then
   k109 (decide (x0 = 6))
  else
  if (decide (x0 = 7)) then
   k109 (decide (x0 = 7))
  else
  k109 (decide (x0 = 8))) fun k104 =>
 if (decide (x0 = 1)) then
  k104 (decide (x0 = 1))
 else
 if (decide (x0 = 2)) then
  k104 (decide (x0 = 2))
 else
 if (decide (x0 = 3)) then
  k104 (decide (x0 = 3))
 else
 k104 (decide (x0 = 4))
def pt (x0 : Int) : Int × Int :=
 if ((decide (x0 < 1)) || (decide (32 < x0))) then
  (0, 10)
 else
 (x0, 0)
def gq (x0 : List Int) (K0 : Unit → Bool) : Nat → Int → Bool
 | 0, x7_ => K0 ()
 | m + 1, x7_ =>
   if ((decide ((ix x0 x7_) < 1)) || (decide (32 < (ix x0 x7_)))) then
    false
   else
   gq x0 K0 m (x7_ + 1)
def jg (x0 : List Int) : Bool :=
 gq x0 (fun (_ : Unit) =>
  true) (Int.toNat ((x0.length : Int) - 0)) 0
def ck (x0 : Int) : (BitVec 32) :=
 LET (jg ([x0] : List Int)) fun y102 =>
 if (!y102) then
  0#32
 else
 (4294967295#32 >>> (wr (32 - x0)).toNat)
def mq (x0 : bd) (x1 : Int) (x2 : Int) : ay × Bool :=
 LET (fun (x8_115 : List ay) =>
  if ((decide (x2 < 0)) || (decide ((x8_115.length : Int) ≤ x2))) then
   (({ Name := ([] : List UInt8), Width := 0 } : ay), false)
  else
  ((ix x8_115 x2), true)) fun k115 =>
 if (!decide (x1 = (-1))) then
  if ((decide (x1 < 0)) || (decide ((x0.Program.Headers.length : Int) ≤ x1))) then
   (({ Name := ([] : List UInt8), Width := 0 } : ay), false)
  else
  k115 ((ix x0.Program.Headers x1).Fields)
 else
 k115 x0.Program.Metadata
def fh (x0 : bd) (x1 : af) : Int × Int :=
 if (decide (x1.Op = 1)) then
  LET (pt x1.W) fun y102 =>
  if ((decide (y102.2 = 0)) && ((decide (x1.N < 0)) || (decide (((ck y102.1).toNat : Int) < x1.N)))) then
   (0, 9)
  else
  (y102.1, y102.2)
 else
 if (decide (x1.Op = 2)) then
  LET (mq x0 x1.N x1.W) fun y108 =>
  if (!y108.2) then
   (0, 8)
  else
  LET (pt y108.1.Width) fun y114 =>
  (y114.1, y114.2)
 else
 if (decide (x1.Op = 3)) then
  if ((decide (x1.N < 0)) || (decide ((x0.Params.length : Int) ≤ x1.N))) then
   (0, 8)
  else
  LET (pt ((ix x0.Params x1.N).Width)) fun y121 =>
  (y121.1, y121.2)
 else
 if ((decide (x1.N < 0)) || (decide ((x0.Program.Headers.length : Int) ≤ x1.N))) then
  (0, 8)
 else
 (1, 0)
def lb (x0 : af) (x1 : List Int) : Int × Int :=
 LET (fun (x10_102 : Bool) =>
  if x10_102 then
   if ((decide (x0.N < 0)) || (decide (31 < x0.N))) then
    (0, 9)
   else
   LET (dw x0.Op) fun y106 =>
   if ((decide (y106 = 2)) && (!decide ((ix x1 0) = (ix x1 1)))) then
    (0, 10)
   else
   if ((decide (x0.Op = 15)) || (decide (x0.Op = 16))) then
    (1, 0)
   else
   ((ix x1 0), 0)
  else
  if (decide (x0.Op = 8)) then
   if (decide (x0.N < 0)) then
    (0, 9)
   else
   LET (pt x0.W) fun y116 =>
   if ((!decide (y116.2 = 0)) || (decide ((wr ((ix x1 0) - x0.W)) < x0.N))) then
    (0, 10)
   else
   (x0.W, 0)
  else
  if (decide (x0.Op = 14)) then
   LET (pt (wr ((ix x1 0) + (ix x1 1)))) fun y123 =>
   (y123.1, y123.2)
  else
  if (decide (x0.Op = 17)) then
   if ((!decide ((ix x1 0) = 1)) || (!decide ((ix x1 1) = (ix x1 2)))) then
    (0, 10)
   else
   ((ix x1 1), 0)
  else
  LET (dw x0.Op) fun y131 =>
  if ((decide (y131 = 2)) && (!decide ((ix x1 0) = (ix x1 1)))) then
   (0, 10)
  else
  if ((decide (x0.Op = 15)) || (decide (x0.Op = 16))) then
   (1, 0)
  else
  ((ix x1 0), 0)) fun k102 =>
 if (decide (x0.Op = 6)) then
  k102 (decide (x0.Op = 6))
 else
 k102 (decide (x0.Op = 7))
def dc (x0 : bd) (x1 : List af) (rec_ : bd → (List af) → Int → (Int × Int × Int)) (K1 : Int → (List Int) → (Int × Int × Int)) : Nat → Int → Int → (List Int) → (Int × Int × Int)
 | 0, x7_, x44_, zE109 => K1 x7_ zE109
 | m + 1, x7_, x44_, zE109 =>
   LET (rec_ x0 x1 x7_) fun y112 =>
   if (!decide (y112.2.2 = 0)) then
    (0, 0, y112.2.2)
   else
   dc x0 x1 rec_ K1 m y112.2.1 (x44_ + 1) (zE109.set x44_.toNat y112.1)
def ek (rec_ : bd → (List af) → Int → (Int × Int × Int)) (x0 : bd) (x1 : List af) (x2 : Int) : Int × Int × Int :=
 if (decide ((x1.length : Int) ≤ x2)) then
  (0, 0, 3)
 else
 LET (dw ((ix x1 x2).Op)) fun y103 =>
 if (decide (y103 < 0)) then
  (0, 0, 11)
 else
 if (decide (y103 = 0)) then
  LET (fh x0 (ix x1 x2)) fun y107 =>
  (y107.1, (wr (x2 + 1)), y107.2)
 else
 dc x0 x1 rec_ (fun (x7_116 : Int) (zE109_116 : List Int) =>
  LET (lb (ix x1 x2) zE109_116) fun y118 =>
  (y118.1, x7_116, y118.2)) (Int.toNat (y103 - 0)) (wr (x2 + 1)) 0 ([0, 0, 0] : List Int)
def dg : Nat → bd → (List af) → Int → (Int × Int × Int)
 | 0, x0, x1, x2 => (0, 0, 1)
 | n_ + 1, x0, x1, x2 => ek (dg n_) x0 x1 x2
def cq (x0 : bd) (x1 : List af) (x2 : Int) : Int × Int × Int := dg ((x1.length - x2.toNat) + 1) x0 x1 x2
def mu (x0 : List af) (x1 : bd) : Int × Int :=
 if (decide (24 < (x0.length : Int))) then
  (0, 12)
 else
 LET (cq x1 x0 0) fun y102 =>
 if (!decide (y102.2.2 = 0)) then
  (0, y102.2.2)
 else
 if (decide (y102.2.1 < (x0.length : Int))) then
  (0, 4)
 else
 (y102.1, 0)
def jr (x0 : da) (x1 : List af) (x2 : Int) : Int :=
 LET (mu x1 x0.scope) fun y102 =>
 if ((decide (y102.2 = 0)) && (!decide (y102.1 = x2))) then
  10
 else
 y102.2
def en (x0 : da) (x1 : ak) : Int :=
 LET (qz x0.scope.Program x1.Dst) fun y107 =>
 if (decide (x1.Kind = 1)) then
  if (!y107.2) then
   8
  else
  LET (jr x0 x1.Value y107.1) fun y113 =>
  y113
 else
 LET (fun (x43_115 : Bool) =>
  if x43_115 then
   if ((decide (x1.Header < 0)) || (decide ((x0.scope.Program.Headers.length : Int) ≤ x1.Header))) then
    8
   else
   0
  else
  LET (fun (x57_121 : Bool) =>
   if x57_121 then
    if ((!((decide (0 ≤ x1.Register)) && (decide (x1.Register < (x0.scope.Program.Registers.length : Int))))) || ((decide (x1.Kind = 4)) && (!y107.2))) then
     8
    else
    LET (mu x1.Index x0.scope) fun y128 =>
    if (!decide (y128.2 = 0)) then
     y128.2
    else
    if (decide (x1.Kind = 5)) then
     LET (jr x0 x1.Value ((ix x0.scope.Program.Registers x1.Register).Width)) fun y134 =>
     y134
    else
    if (!decide (y107.1 = ((ix x0.scope.Program.Registers x1.Register).Width))) then
     10
    else
    0
   else
   11) fun k121 =>
  if (decide (x1.Kind = 4)) then
   k121 (decide (x1.Kind = 4))
  else
  k121 (decide (x1.Kind = 5))) fun k115 =>
 if (decide (x1.Kind = 2)) then
  k115 (decide (x1.Kind = 2))
 else
 k115 (decide (x1.Kind = 3))
def ig (x0 : ae) (x1 : Int) (K0 : Unit → (Int × Int)) : Nat → Int → (Int × Int)
 | 0, x37_ => K0 ()
 | m + 1, x37_ =>
   LET (en ({ scope := ({ Program := x0, Params := (ix x0.Actions x1).Params } : bd) } : da) (ix ((ix x0.Actions x1).Body) x37_)) fun y124 =>
   if (!decide (y124 = 0)) then
    (x37_, y124)
   else
   ig x0 x1 K0 m (x37_ + 1)
def iu (x0 : ae) (x1 : Int) : Int × Int :=
 if ((decide (x1 < 0)) || (decide ((x0.Actions.length : Int) ≤ x1))) then
  ((-1), 8)
 else
 LET (jy (ix x0.Actions x1)) fun y109 =>
 if (!decide (y109 = 0)) then
  ((-1), y109)
 else
 ig x0 x1 (fun (_ : Unit) =>
  (0, 0)) (Int.toNat ((((ix x0.Actions x1).Body).length : Int) - 0)) 0
def im (x0 : ae) (x1 : Int) : (List ak) :=
 LET (iu x0 x1) fun y101 =>
 if (!decide (y101.2 = 0)) then
  ([] : List ak)
 else
 (ix x0.Actions x1).Body
def pm (x0 : Int) : Bool :=
 (!decide (x0 = x0))
def kp (x0 : Int) (x1 : Int) : Int :=
 LET (pm x0) fun y101 =>
 LET (pm x1) fun y102 =>
 if y101 then
  if y102 then
   0
  else
  (-1)
 else
 if y102 then
  1
 else
 if (decide (x0 < x1)) then
  (-1)
 else
 if (decide (x1 < x0)) then
  1
 else
 0
def mi (x0 : List Int) (K0 : Unit → Int) : Nat → Int → Int
 | 0, x8_ => K0 ()
 | m + 1, x8_ =>
   if (!decide ((ix x0 x8_) = 0)) then
    (ix x0 x8_)
   else
   mi x0 K0 m (x8_ + 1)
def qm (x0 : List Int) : Int :=
 mi x0 (fun (_ : Unit) =>
  0) (Int.toNat ((x0.length : Int) - 0)) 0
def kg (x0 : aa) (x1 : aa) : Int :=
 LET (kp x0.Header x1.Header) fun y101 =>
 LET (kp x0.Field x1.Field) fun y102 =>
 LET (qm ([y101, y102] : List Int)) fun y104 =>
 y104
def fd (x0 : aa) (x1 : aa) : Int :=
 LET (kp x0.Header x1.Header) fun y101 =>
 LET (kp x0.Field x1.Field) fun y102 =>
 LET (qm ([y101, y102] : List Int)) fun y104 =>
 y104
def mm (l : List aa) : List aa := l.mergeSort fun x y => !decide (kg y x < 0)
def kw (l : List aa) : List aa := l.mergeSort fun x y => !decide (fd y x < 0)
def iq (l : List aa) : List aa := cpt l
def iz (x0 : List af) (K0 : (List aa) → (List aa)) : Nat → Int → (List aa) → (List aa)
 | 0, x8_, zE102 => K0 zE102
 | m + 1, x8_, zE102 =>
   if (decide (((ix x0 x8_).Op) = 2)) then
    iz x0 K0 m (x8_ + 1) (zE102 ++ ([({ Header := (ix x0 x8_).N, Field := (ix x0 x8_).W } : aa)] : List aa))
   else
   iz x0 K0 m (x8_ + 1) zE102
def jm (x0 : List af) : (List aa) :=
 iz x0 (fun (zE102_112 : List aa) =>
  LET (mm zE102_112) fun y113 =>
  LET (iq y113) fun y115 =>
  y115) (Int.toNat ((x0.length : Int) - 0)) 0 ([] : List aa)
def jd (l : List Int) : List Int := l.mergeSort fun x y => decide (x ≤ y)
def kx (l : List Int) : List Int := cpt l
def ie (x0 : List af) (K0 : (List Int) → (List Int)) : Nat → Int → (List Int) → (List Int)
 | 0, x8_, zE102 => K0 zE102
 | m + 1, x8_, zE102 =>
   if (decide (((ix x0 x8_).Op) = 4)) then
    ie x0 K0 m (x8_ + 1) (zE102 ++ ([(ix x0 x8_).N] : List Int))
   else
   ie x0 K0 m (x8_ + 1) zE102
def ir (x0 : List af) : (List Int) :=
 ie x0 (fun (zE102_112 : List Int) =>
  LET (jd zE102_112) fun y113 =>
  LET (kx y113) fun y115 =>
  y115) (Int.toNat ((x0.length : Int) - 0)) 0 ([] : List Int)
def fi (x0 : bq) (x1 : List af) : bq :=
 LET (jm x1) fun y101 =>
 LET (ir x1) fun y105 =>
 ({ fields := (x0.fields ++ y101), headers := (x0.headers ++ y105), registers := x0.registers } : bq)
def lu (x0 : bq) : (List aa) × (List Int) × (List Int) :=
 LET (kw x0.fields) fun y102 =>
 LET (jd x0.headers) fun y104 =>
 LET (jd x0.registers) fun y106 =>
 LET (iq y102) fun y108 =>
 LET (kx y104) fun y111 =>
 LET (kx y106) fun y114 =>
 (y108, y111, y114)
def jw (y103 : (List ak)) (K0 : bq → ((List aa) × (List Int) × (List Int))) : Nat → Int → bq → ((List aa) × (List Int) × (List Int))
 | 0, x14_, zE102 => K0 zE102
 | m + 1, x14_, zE102 =>
   LET (fun (zE102_143 : bq) =>
    if (((decide (((ix y103 x14_).Kind) = 1)) || (decide (((ix y103 x14_).Kind) = 4))) && (!decide ((((ix y103 x14_).Dst).Header) = (-1)))) then
     jw y103 K0 m (x14_ + 1) ({ fields := zE102_143.fields, headers := (zE102_143.headers ++ ([((ix y103 x14_).Dst).Header] : List Int)), registers := zE102_143.registers } : bq)
    else
    jw y103 K0 m (x14_ + 1) ({ fields := zE102_143.fields, headers := zE102_143.headers, registers := zE102_143.registers } : bq)) fun k143 =>
   if (decide (((ix y103 x14_).Kind) = 1)) then
    LET (fi ({ fields := zE102.fields, headers := zE102.headers, registers := zE102.registers } : bq) ((ix y103 x14_).Value)) fun y155 =>
    k143 ({ fields := y155.fields, headers := y155.headers, registers := y155.registers } : bq)
   else
   if (decide (((ix y103 x14_).Kind) = 2)) then
    k143 ({ fields := zE102.fields, headers := (zE102.headers ++ ([(ix y103 x14_).Header] : List Int)), registers := zE102.registers } : bq)
   else
   if (decide (((ix y103 x14_).Kind) = 4)) then
    LET (fi ({ fields := zE102.fields, headers := zE102.headers, registers := zE102.registers } : bq) ((ix y103 x14_).Index)) fun y165 =>
    k143 ({ fields := y165.fields, headers := y165.headers, registers := (y165.registers ++ ([(ix y103 x14_).Register] : List Int)) } : bq)
   else
   if (decide (((ix y103 x14_).Kind) = 5)) then
    LET (fi ({ fields := zE102.fields, headers := zE102.headers, registers := zE102.registers } : bq) ((ix y103 x14_).Index)) fun y174 =>
    LET (fi ({ fields := y174.fields, headers := y174.headers, registers := y174.registers } : bq) ((ix y103 x14_).Value)) fun y178 =>
    k143 ({ fields := y178.fields, headers := y178.headers, registers := y178.registers } : bq)
   else
   k143 ({ fields := zE102.fields, headers := zE102.headers, registers := zE102.registers } : bq)
def jo (x0 : ae) (x1 : Int) : (List aa) × (List Int) × (List Int) :=
 LET (im x0 x1) fun y103 =>
 jw y103 (fun (zE102_181 : bq) =>
  LET (lu ({ fields := zE102_181.fields, headers := zE102_181.headers, registers := zE102_181.registers } : bq)) fun y182 =>
  (y182.1, y182.2.1, y182.2.2)) (Int.toNat ((y103.length : Int) - 0)) 0 ({ fields := ([] : List aa), headers := ([] : List Int), registers := ([] : List Int) } : bq)
def kf (y103 : (List ak)) (x15_ : Int) (K3 : (List Int) → (List Int) → (List aa) → ((List aa) × (List Int) × (List Int))) : Nat → Int → (List Int) → (List Int) → (List aa) → ((List aa) × (List Int) × (List Int))
 | 0, x49_, zE110n2, zE108n2, zE106n2 => K3 zE110n2 zE108n2 zE106n2
 | m + 1, x49_, zE110n2, zE108n2, zE106n2 =>
   kf y103 x15_ K3 m (x49_ + 1) zE110n2 zE108n2 (zE106n2 ++ ([({ Header := (ix y103 x15_).Header, Field := x49_ } : aa)] : List aa))
def gg (x0 : ae) (y103 : (List ak)) (K0 : (List Int) → (List Int) → (List aa) → ((List aa) × (List Int) × (List Int))) : Nat → Int → (List Int) → (List Int) → (List aa) → ((List aa) × (List Int) × (List Int))
 | 0, x15_, zE110, zE108, zE106 => K0 zE110 zE108 zE106
 | m + 1, x15_, zE110, zE108, zE106 =>
   LET (fun (x21_118 : Bool) =>
    if x21_118 then
     gg x0 y103 K0 m (x15_ + 1) zE110 zE108 (zE106 ++ ([(ix y103 x15_).Dst] : List aa))
    else
    LET (fun (x31_125 : Bool) =>
     if x31_125 then
      kf y103 x15_ (fun (zE110n2_138 : List Int) (zE108n2_138 : List Int) (zE106n2_138 : List aa) =>
       gg x0 y103 K0 m (x15_ + 1) zE110n2_138 zE108n2_138 zE106n2_138) (Int.toNat ((((ix x0.Headers ((ix y103 x15_).Header)).Fields).length : Int) - 0)) 0 zE110 (zE108 ++ ([(ix y103 x15_).Header] : List Int)) zE106
     else
     if (decide (((ix y103 x15_).Kind) = 5)) then
      gg x0 y103 K0 m (x15_ + 1) (zE110 ++ ([(ix y103 x15_).Register] : List Int)) zE108 zE106
     else
     gg x0 y103 K0 m (x15_ + 1) zE110 zE108 zE106) fun k125 =>
    if (decide (((ix y103 x15_).Kind) = 2)) then
     k125 (decide (((ix y103 x15_).Kind) = 2))
    else
    k125 (decide (((ix y103 x15_).Kind) = 3))) fun k118 =>
   if (decide (((ix y103 x15_).Kind) = 1)) then
    k118 (decide (((ix y103 x15_).Kind) = 1))
   else
   k118 (decide (((ix y103 x15_).Kind) = 4))
def jb (x0 : ae) (x1 : Int) : (List aa) × (List Int) × (List Int) :=
 LET (im x0 x1) fun y103 =>
 gg x0 y103 (fun (zE110_145 : List Int) (zE108_145 : List Int) (zE106_145 : List aa) =>
  LET (lu ({ fields := zE106_145, headers := zE108_145, registers := zE110_145 } : bq)) fun y146 =>
  (y146.1, y146.2.1, y146.2.2)) (Int.toNat ((y103.length : Int) - 0)) 0 ([] : List Int) ([] : List Int) ([] : List aa)
def il (x0 : av) (x1 : aa) : Bool :=
 if (decide (x1.Header = (-1))) then
  ((decide (0 ≤ x1.Field)) && (decide (x1.Field < (x0.Metd.length : Int))))
 else
 ((((decide (0 ≤ x1.Header)) && (decide (x1.Header < (x0.Fields.length : Int)))) && (decide (0 ≤ x1.Field))) && (decide (x1.Field < ((ix x0.Fields x1.Header).length : Int))))
def ph (x0 : av) (x1 : Int) : Bool :=
 (((decide (0 ≤ x1)) && (decide (x1 < (x0.Valid.length : Int)))) && (ix x0.Valid x1))
def ga (x0 : av) (x1 : aa) : (BitVec 32) :=
 LET (il x0 x1) fun y101 =>
 if (!y101) then
  0#32
 else
 if (decide (x1.Header = (-1))) then
  (ix x0.Metd x1.Field)
 else
 LET (ph x0 x1.Header) fun y105 =>
 if (!y105) then
  0#32
 else
 (ix (ix x0.Fields x1.Header) x1.Field)
def gh (x0 : List (BitVec 32)) (x1 : List (BitVec 32)) (K0 : Unit → Bool) : Nat → Int → Bool
 | 0, x5_ => K0 ()
 | m + 1, x5_ =>
   if (!decide ((ix x0 x5_) = (ix x1 x5_))) then
    false
   else
   gh x0 x1 K0 m (x5_ + 1)
def jk (x0 : List (BitVec 32)) (x1 : List (BitVec 32)) : Bool :=
 if (!decide ((x0.length : Int) = (x1.length : Int))) then
  false
 else
 gh x0 x1 (fun (_ : Unit) =>
  true) (Int.toNat ((x0.length : Int) - 0)) 0
def lj (x0 : az) (x1 : az) (x2 : List aa) (K0 : Unit → Bool) : Nat → Int → Bool
 | 0, x11_ => K0 ()
 | m + 1, x11_ =>
   LET (ga x0.E (ix x2 x11_)) fun y105 =>
   LET (ga x1.E (ix x2 x11_)) fun y108 =>
   if (!decide (y105 = y108)) then
    false
   else
   lj x0 x1 x2 K0 m (x11_ + 1)
def lq (x0 : az) (x1 : az) (x3 : List Int) (K2 : Unit → Bool) : Nat → Int → Bool
 | 0, x12_ => K2 ()
 | m + 1, x12_ =>
   if ((((decide ((ix x3 x12_) < 0)) || (decide ((x0.E.Valid.length : Int) ≤ (ix x3 x12_)))) || (decide ((x1.E.Valid.length : Int) ≤ (ix x3 x12_)))) || (!decide ((ix x0.E.Valid (ix x3 x12_)) = (ix x1.E.Valid (ix x3 x12_))))) then
    false
   else
   lq x0 x1 x3 K2 m (x12_ + 1)
def ln (x0 : az) (x1 : az) (x4 : List Int) (K4 : Unit → Bool) : Nat → Int → Bool
 | 0, x13_ => K4 ()
 | m + 1, x13_ =>
   if ((((decide ((ix x4 x13_) < 0)) || (decide ((x0.Regs.length : Int) ≤ (ix x4 x13_)))) || (decide ((x1.Regs.length : Int) ≤ (ix x4 x13_)))) || (!(jk (ix x0.Regs (ix x4 x13_)) (ix x1.Regs (ix x4 x13_))))) then
    false
   else
   ln x0 x1 x4 K4 m (x13_ + 1)
def oa (x0 : az) (x1 : az) (x2 : List aa) (x3 : List Int) (x4 : List Int) : Bool :=
 lj x0 x1 x2 (fun (_ : Unit) =>
  lq x0 x1 x3 (fun (_ : Unit) =>
   ln x0 x1 x4 (fun (_ : Unit) =>
    true) (Int.toNat ((x4.length : Int) - 0)) 0) (Int.toNat ((x3.length : Int) - 0)) 0) (Int.toNat ((x2.length : Int) - 0)) 0
def jq (x0 : List (List Bool)) (K0 : (List Bool) → (List Bool)) : Nat → Int → (List Bool) → (List Bool)
 | 0, x8_, zE102 => K0 zE102
 | m + 1, x8_, zE102 =>
   jq x0 K0 m (x8_ + 1) (zE102 ++ (ix x0 x8_))
def nk (x0 : List (List Bool)) : (List Bool) :=
 jq x0 (fun (zE102_107 : List Bool) =>
  zE102_107) (Int.toNat ((x0.length : Int) - 0)) 0 ([] : List Bool)
def iv (x0 : List (List (BitVec 32))) (K0 : (List (BitVec 32)) → (List (BitVec 32))) : Nat → Int → (List (BitVec 32)) → (List (BitVec 32))
 | 0, x8_, zE102 => K0 zE102
 | m + 1, x8_, zE102 =>
   iv x0 K0 m (x8_ + 1) (zE102 ++ (ix x0 x8_))
def lx (x0 : List (List (BitVec 32))) : (List (BitVec 32)) :=
 iv x0 (fun (zE102_107 : List (BitVec 32)) =>
  zE102_107) (Int.toNat ((x0.length : Int) - 0)) 0 ([] : List (BitVec 32))
def jn (x0 : List (List UInt8)) (K0 : (List UInt8) → (List UInt8)) : Nat → Int → (List UInt8) → (List UInt8)
 | 0, x8_, zE102 => K0 zE102
 | m + 1, x8_, zE102 =>
   jn x0 K0 m (x8_ + 1) (zE102 ++ (ix x0 x8_))
def nl (x0 : List (List UInt8)) : (List UInt8) :=
 jn x0 (fun (zE102_107 : List UInt8) =>
  zE102_107) (Int.toNat ((x0.length : Int) - 0)) 0 ([] : List UInt8)
def vj (x0 : av) : av := x0
def ot (x0 : List co) (x1 : Int) : co :=
 if ((decide (x1 < 0)) || (decide ((x0.length : Int) ≤ x1))) then
  ({ Name := ([] : List UInt8), Fields := ([] : List ay) } : co)
 else
 (ix x0 x1)
def tr (x0 : ae) (x1 : Int) : (List ay) :=
 if (decide (x1 = (-1))) then
  x0.Metadata
 else
 LET (ot x0.Headers x1) fun y104 =>
 y104.Fields
def ik (x0 : List ay) (x1 : Int) : ay :=
 if ((decide (x1 < 0)) || (decide ((x0.length : Int) ≤ x1))) then
  ({ Name := ([] : List UInt8), Width := 0 } : ay)
 else
 (ix x0 x1)
def ju (x0 : ae) (x1 : aa) : Int :=
 LET (tr x0 x1.Header) fun y101 =>
 LET (ik y101 x1.Field) fun y103 =>
 LET (ck y103.Width) fun y105 =>
 if (decide (y105 = 0#32)) then
  0
 else
 y103.Width
def gj (x0 : List (BitVec 32)) (x1 : Int) : Bool :=
 ((decide (0 ≤ x1)) && (decide (x1 < (x0.length : Int))))
def ib (x0 : List (List (BitVec 32))) (x1 : Int) : (List (BitVec 32)) :=
 if ((decide (x1 < 0)) || (decide ((x0.length : Int) ≤ x1))) then
  ([] : List (BitVec 32))
 else
 (ix x0 x1)
def nf (x0 : List Bool) (x1 : Int) : Bool :=
 if ((decide (x1 < 0)) || (decide ((x0.length : Int) ≤ x1))) then
  false
 else
 (ix x0 x1)
def fm (x0 : av) (x1 : aa) : (List (BitVec 32)) × Bool :=
 if (decide (x1 = ({ Header := (-1), Field := x1.Field } : aa))) then
  LET (gj x0.Metd x1.Field) fun y104 =>
  (x0.Metd, y104)
 else
 LET (ib x0.Fields x1.Header) fun y106 =>
 LET (nf x0.Valid x1.Header) fun y109 =>
 (y106, (y109 && (gj y106 x1.Field)))
def jf (x0 : ae) (x1 : av) (x2 : aa) (x3 : BitVec 32) : av :=
 if (fm x1 x2).2 && decide (0 < ju x0 x2) then putF x1 x2 (x3 &&& ck (ju x0 x2)) else x1
def pd (x0 : List (List (BitVec 32))) : List (List (BitVec 32)) := x0
def uv (x0 : BitVec 32) (x1 : Int) : Bool :=
 LET (jg ([x1] : List Int)) fun y102 =>
 (y102 && (decide (x0 ≤ (ck x1))))
def lz (x0 : ae) (x1 : bt) (K0 : Unit → Int) : Nat → Int → Int
 | 0, x35_ => K0 ()
 | m + 1, x35_ =>
   LET (uv (ix x1.Args x35_) ((ix ((ix x0.Actions x1.Action).Params) x35_).Width)) fun y113 =>
   if (!y113) then
    9
   else
   lz x0 x1 K0 m (x35_ + 1)
def ii (x0 : ae) (x1 : bt) : Int :=
 if ((decide (x1.Action < 0)) || (decide ((x0.Actions.length : Int) ≤ x1.Action))) then
  8
 else
 if (!decide ((x1.Args.length : Int) = (((ix x0.Actions x1.Action).Params).length : Int))) then
  2
 else
 lz x0 x1 (fun (_ : Unit) =>
  0) (Int.toNat ((x1.Args.length : Int) - 0)) 0
def xy (x0 : av) (x1 : aa) : (BitVec 32) :=
 LET (fm x0 x1) fun y101 =>
 if (!y101.2) then
  0#32
 else
 (ix y101.1 x1.Field)
def gf (x0 : ba) (x1 : af) : aj × ba :=
 LET (fh x0.scope x1) fun y104 =>
 if (decide (x1.Op = 1)) then
  LET (ck y104.1) fun y106 =>
  (({ v := ((BitVec.ofInt 32 x1.N) &&& y106), w := y104.1 } : aj), x0)
 else
 if (decide (x1.Op = 2)) then
  LET (xy x0.env ({ Header := x1.N, Field := x1.W } : aa)) fun y111 =>
  LET (ck y104.1) fun y112 =>
  (({ v := (y111 &&& y112), w := y104.1 } : aj), x0)
 else
 if (decide (x1.Op = 3)) then
  if (decide (x1.N < (x0.args.length : Int))) then
   LET (ck y104.1) fun y119 =>
   (({ v := ((ix x0.args x1.N) &&& y119), w := y104.1 } : aj), x0)
  else
  LET (ck y104.1) fun y122 =>
  (({ v := (0#32 &&& y122), w := y104.1 } : aj), x0)
 else
 if (decide (x1.Op = 4)) then
  if ((decide (x1.N < (x0.env.Valid.length : Int))) && (ix x0.env.Valid x1.N)) then
   LET (ck y104.1) fun y132 =>
   (({ v := (1#32 &&& y132), w := y104.1 } : aj), x0)
  else
  LET (ck y104.1) fun y135 =>
  (({ v := (0#32 &&& y135), w := y104.1 } : aj), x0)
 else
 LET (ck y104.1) fun y138 =>
 (({ v := (0#32 &&& y138), w := y104.1 } : aj), x0)
def wu (x0 : BitVec 32) (x1 : Int) : (BitVec 32) :=
 LET (ck x1) fun y101 =>
 ((~~~x0) &&& y101)
def xi (x0 : BitVec 32) (x1 : Int) (x2 : Int) : (BitVec 32) :=
 LET (ck x2) fun y101 =>
 ((x0 <<< (max x1 0).toNat) &&& y101)
def xj (x0 : BitVec 32) (x1 : Int) (x2 : Int) : (BitVec 32) :=
 LET (ck x2) fun y101 =>
 ((x0 &&& y101) >>> (max x1 0).toNat)
def ua (x0 : BitVec 32) (x1 : Int) (x2 : Int) : (BitVec 32) :=
 LET (jg ([x2] : List Int)) fun y102 =>
 if (((!y102) || (decide (x1 < 0))) || (decide ((wr (32 - x2)) < x1))) then
  0#32
 else
 LET (ck x2) fun y106 =>
 ((x0 >>> x1.toNat) &&& y106)
def wv (x0 : af) (x1 : aj) : aj :=
 if (decide (x0.Op = 5)) then
  LET (wu x1.v x1.w) fun y104 =>
  ({ v := y104, w := x1.w } : aj)
 else
 if (decide (x0.Op = 6)) then
  LET (xi x1.v x0.N x1.w) fun y107 =>
  ({ v := y107, w := x1.w } : aj)
 else
 if (decide (x0.Op = 7)) then
  LET (xj x1.v x0.N x1.w) fun y110 =>
  ({ v := y110, w := x1.w } : aj)
 else
 LET (ua x1.v x0.N x0.W) fun y112 =>
 ({ v := y112, w := x0.W } : aj)
def xf (x0 : BitVec 32) (x1 : BitVec 32) (x2 : Int) : (BitVec 32) :=
 LET (ck x2) fun y101 =>
 ((x0 + x1) &&& y101)
def xb (x0 : BitVec 32) (x1 : BitVec 32) (x2 : Int) : (BitVec 32) :=
 LET (ck x2) fun y101 =>
 ((x0 - x1) &&& y101)
def qq (x0 : BitVec 32) (x1 : Int) (x2 : BitVec 32) (x3 : Int) : (BitVec 32) × Bool :=
 LET (jg ([x1, x3] : List Int)) fun y102 =>
 if ((!y102) || (decide (32 < (wr (x1 + x3))))) then
  (0#32, false)
 else
 LET (ck x1) fun y105 =>
 LET (ck x3) fun y106 =>
 ((((x0 &&& y105) <<< x3.toNat) ||| (x2 &&& y106)), true)
def ub (x0 : Bool) : aj :=
 if x0 then
  ({ v := 1#32, w := 1 } : aj)
 else
 ({ v := 0#32, w := 1 } : aj)
def vc (x0 : Int) (x1 : aj) (x2 : aj) : aj :=
 if (decide (x0 = 9)) then
  LET (xf x1.v x2.v x1.w) fun y104 =>
  ({ v := y104, w := x1.w } : aj)
 else
 if (decide (x0 = 10)) then
  LET (xb x1.v x2.v x1.w) fun y107 =>
  ({ v := y107, w := x1.w } : aj)
 else
 if (decide (x0 = 11)) then
  ({ v := (x1.v &&& x2.v), w := x1.w } : aj)
 else
 if (decide (x0 = 12)) then
  ({ v := (x1.v ||| x2.v), w := x1.w } : aj)
 else
 if (decide (x0 = 13)) then
  ({ v := (x1.v ^^^ x2.v), w := x1.w } : aj)
 else
 if (decide (x0 = 14)) then
  LET (qq x1.v x1.w x2.v x2.w) fun y116 =>
  ({ v := y116.1, w := (wr (x1.w + x2.w)) } : aj)
 else
 if (decide (x0 = 15)) then
  LET (ub (decide (x1.v = x2.v))) fun y119 =>
  y119
 else
 LET (ub (decide (x1.v < x2.v))) fun y122 =>
 y122
def js (rec_ : ba → (aj × ba)) (x0 : ba) : aj × ba :=
 LET (dw ((ix x0.nodes x0.next).Op)) fun y111 =>
 if (decide (y111 = 0)) then
  LET (gf ({ scope := x0.scope, env := x0.env, args := x0.args, nodes := x0.nodes, next := (wr (x0.next + 1)) } : ba) (ix x0.nodes x0.next)) fun y113 =>
  (y113.1, y113.2)
 else
 if (decide (y111 = 1)) then
  LET (rec_ ({ scope := x0.scope, env := x0.env, args := x0.args, nodes := x0.nodes, next := (wr (x0.next + 1)) } : ba)) fun y119 =>
  LET (wv (ix x0.nodes x0.next) y119.1) fun y122 =>
  (y122, y119.2)
 else
 if (decide (y111 = 2)) then
  LET (rec_ ({ scope := x0.scope, env := x0.env, args := x0.args, nodes := x0.nodes, next := (wr (x0.next + 1)) } : ba)) fun y127 =>
  LET (rec_ y127.2) fun y133 =>
  LET (vc ((ix x0.nodes x0.next).Op) y127.1 y133.1) fun y139 =>
  (y139, y133.2)
 else
 LET (rec_ ({ scope := x0.scope, env := x0.env, args := x0.args, nodes := x0.nodes, next := (wr (x0.next + 1)) } : ba)) fun y143 =>
 LET (rec_ y143.2) fun y149 =>
 LET (rec_ y149.2) fun y155 =>
 if (decide (y143.1.v = 1#32)) then
  (y149.1, y155.2)
 else
 (y155.1, y155.2)
def dj : Nat → ba → (aj × ba)
 | 0, x0 => (default, { x0 with next := (cq x0.scope x0.nodes x0.next).2.1 })
 | n_ + 1, x0 => js (dj n_) x0
def mz (x0 : ba) : aj × ba := dj (x0.nodes.length - x0.next.toNat + 1) x0
def ri (x0 : List af) (x1 : bd) (x2 : av) (x3 : List (BitVec 32)) : (BitVec 32) :=
 LET (mu x0 x1) fun y101 =>
 if (!decide (y101.2 = 0)) then
  0#32
 else
 LET (mz ({ scope := x1, env := x2, args := x3, nodes := x0, next := 0 } : ba)) fun y108 =>
 y108.1.v
def dp (x0 : aw) (x1 : List af) : (BitVec 32) :=
 LET (ri x1 x0.scope x0.env x0.args) fun y104 =>
 y104
def jp (x0 : aw) (x1 : ak) : aw :=
 LET (dp x0 x1.Value) fun y106 =>
 LET (jf x0.scope.Program x0.env x1.Dst y106) fun y108 =>
 ({ scope := x0.scope, args := x0.args, env := y108, regs := x0.regs } : aw)
def fw (x0 : List co) (x1 : Int) : Bool :=
 ((decide (0 ≤ x1)) && (decide (x1 < (x0.length : Int))))
def ll (x0 : List Bool) (x1 : Int) : Bool :=
 ((decide (0 ≤ x1)) && (decide (x1 < (x0.length : Int))))
def fa (x0 : ae) (x1 : av) (x2 : Int) (x3 x4 : Bool) : av :=
 if (!fw x0.Headers x2 || !ll x1.Valid x2) || (x4 && decide (ix x1.Valid x2 = x3)) then x1 else swE x1 x2 x3
def sx (x0 : ae) (x1 : av) (x2 : Int) : av :=
 LET (fa x0 x1 x2 true true) fun y103 =>
 y103
def io (x0 : aw) (x1 : ak) : aw :=
 LET (sx x0.scope.Program x0.env x1.Header) fun y104 =>
 ({ scope := x0.scope, args := x0.args, env := y104, regs := x0.regs } : aw)
def qk (x0 : ae) (x1 : av) (x2 : Int) : av :=
 LET (fa x0 x1 x2 false false) fun y103 =>
 y103
def gn (x0 : aw) (x1 : ak) : aw :=
 LET (qk x0.scope.Program x0.env x1.Header) fun y104 =>
 ({ scope := x0.scope, args := x0.args, env := y104, regs := x0.regs } : aw)
def fc (x0 : du) (x1 : Int) (x2 : BitVec 32) : Bool :=
 if (((decide (x1 < 0)) || (decide ((x0.p.Registers.length : Int) ≤ x1))) || (decide ((x0.cells.length : Int) ≤ x1))) then
  false
 else
 ((decide ((x2.toNat : Int) < ((ix x0.p.Registers x1).Size))) && (decide ((x2.toNat : Int) < ((ix x0.cells x1).length : Int))))
def mh (x0 : ae) (x1 : List (List (BitVec 32))) (x2 : Int) (x3 : BitVec 32) : (BitVec 32) :=
 LET (fc ({ p := x0, cells := x1 } : du) x2 x3) fun y102 =>
 if (!y102) then
  0#32
 else
 (ix (ix x1 x2) (x3.toNat : Int))
def kb (x0 : aw) (x1 : ak) : aw :=
 LET (dp x0 x1.Index) fun y105 =>
 LET (mh x0.scope.Program x0.regs x1.Register y105) fun y107 =>
 LET (jf x0.scope.Program x0.env x1.Dst y107) fun y112 =>
 ({ scope := x0.scope, args := x0.args, env := y112, regs := x0.regs } : aw)
def fk (x0 : ae) (x1 : List (List (BitVec 32))) (x2 : Int) (x3 x4 : BitVec 32) : List (List (BitVec 32)) :=
 if fc { p := x0, cells := x1 } x2 x3 && decide (0#32 < ck (ix x0.Registers x2).Width) then x1.set x2.toNat ((ix x1 x2).set x3.toNat (x4 &&& ck (ix x0.Registers x2).Width)) else x1
def jv (x0 : aw) (x1 : ak) : aw :=
 LET (dp x0 x1.Index) fun y105 =>
 LET (dp x0 x1.Value) fun y108 =>
 LET (fk x0.scope.Program x0.regs x1.Register y105 y108) fun y110 =>
 ({ scope := x0.scope, args := x0.args, env := x0.env, regs := y110 } : aw)
def gv (x0 : ae) (x1 : bt) (K0 : aw → (av × (List (List (BitVec 32))))) : Nat → Int → aw → (av × (List (List (BitVec 32))))
 | 0, x67_, zE109 => K0 zE109
 | m + 1, x67_, zE109 =>
   if (decide (((ix ((ix x0.Actions x1.Action).Body) x67_).Kind) = 2)) then
    LET (io zE109 (ix ((ix x0.Actions x1.Action).Body) x67_)) fun y135 =>
    gv x0 x1 K0 m (x67_ + 1) y135
   else
   if (decide (((ix ((ix x0.Actions x1.Action).Body) x67_).Kind) = 3)) then
    LET (gn zE109 (ix ((ix x0.Actions x1.Action).Body) x67_)) fun y138 =>
    gv x0 x1 K0 m (x67_ + 1) y138
   else
   if (decide (((ix ((ix x0.Actions x1.Action).Body) x67_).Kind) = 4)) then
    LET (kb zE109 (ix ((ix x0.Actions x1.Action).Body) x67_)) fun y141 =>
    gv x0 x1 K0 m (x67_ + 1) y141
   else
   if (decide (((ix ((ix x0.Actions x1.Action).Body) x67_).Kind) = 5)) then
    LET (jv zE109 (ix ((ix x0.Actions x1.Action).Body) x67_)) fun y144 =>
    gv x0 x1 K0 m (x67_ + 1) y144
   else
   LET (jp zE109 (ix ((ix x0.Actions x1.Action).Body) x67_)) fun y146 =>
   gv x0 x1 K0 m (x67_ + 1) y146
def iy (x0 : ae) (x1 : bt) (x2 : av) (x3 : List (List (BitVec 32))) : av × (List (List (BitVec 32))) :=
 LET (vj x2) fun y103 =>
 LET (pd x3) fun y105 =>
 LET (iu x0 x1.Action) fun y110 =>
 if ((!decide (y110.2 = 0)) || (!decide ((ii x0 x1) = 0))) then
  (y103, y105)
 else
 gv x0 x1 (fun (zE109_148 : aw) =>
  (zE109_148.env, zE109_148.regs)) (Int.toNat ((((ix x0.Actions x1.Action).Body).length : Int) - 0)) 0 ({ scope := ({ Program := x0, Params := (ix x0.Actions x1.Action).Params } : bd), args := x1.Args, env := y103, regs := y105 } : aw)
def ma (x0 : az) (x1 : av) (x2 : List (List (BitVec 32))) : Bool :=
 LET (qv x0.P) fun y112 =>
 if ((((!y112) || (decide (40 < (x0.Call.Args.length : Int)))) || (!(mf x0))) || (!(mf ({ P := x0.P, Call := x0.Call, E := x1, Regs := x2 } : az)))) then
  LET (qs) fun y121 =>
  y121
 else
 LET (jo x0.P x0.Call.Action) fun y124 =>
 LET (jb x0.P x0.Call.Action) fun y130 =>
 LET (oa x0 ({ P := x0.P, Call := x0.Call, E := x1, Regs := x2 } : az) y124.1 y124.2.1 y124.2.2) fun y134 =>
 if ((!y134) || (!(oa x0 ({ P := x0.P, Call := x0.Call, E := x1, Regs := x2 } : az) y130.1 y130.2.1 y130.2.2))) then
  LET (qs) fun y138 =>
  y138
 else
 LET (iy x0.P x0.Call x0.E x0.Regs) fun y143 =>
 LET (iy x0.P x0.Call x1 x2) fun y150 =>
 LET (oa ({ P := x0.P, Call := x0.Call, E := y143.1, Regs := y143.2 } : az) ({ P := x0.P, Call := x0.Call, E := y150.1, Regs := y150.2 } : az) y130.1 y130.2.1 y130.2.2) fun y156 =>
 (y156 && (qs))
end Go.Proofs.YtmonnlkagniolaaGreat
