import Derived.Test.YtmonnlkagniolaaGreatKTy
import Derived.Test.YtmonnlkagniolaaGreatPbC
import Derived.Test.YtmonnlkagniolaaGreatKEp
set_option linter.unusedVariables false
set_option linter.unusedSimpArgs false
set_option maxRecDepth 100000
namespace Go.Proofs.YtmonnlkagniolaaGreat
open Go Go.Pb Go.RowKit
def oz (x0 : af) (x3_ : Int) (K2 : Unit → Bool) : Nat → Int → Bool
 | 0, x4_ => K2 ()
 | m + 1, x4_ =>
   if ((decide (60 < (((ix ((ix x0.Actions x3_).Body) x4_).Index).length : Int))) || (decide (60 < (((ix ((ix x0.Actions x3_).Body) x4_).Value).length : Int)))) then
    false
   else
   oz x0 x3_ K2 m (x4_ + 1)
def oq (x0 : af) (K0 : Unit → Bool) : Nat → Int → Bool
 | 0, x3_ => K0 ()
 | m + 1, x3_ =>
   if ((decide (20 < (((ix x0.Actions x3_).Params).length : Int))) || (decide (30 < (((ix x0.Actions x3_).Body).length : Int)))) then
    false
   else
   oz x0 x3_ (fun (_ : Unit) =>
    oq x0 K0 m (x3_ + 1)) (Int.toNat ((((ix x0.Actions x3_).Body).length : Int) - 0)) 0
def ow (x0 : af) (K4 : Unit → Bool) : Nat → Int → Bool
 | 0, x5_ => K4 ()
 | m + 1, x5_ =>
   if (decide (40 < (((ix x0.Headers x5_).Fields).length : Int))) then
    false
   else
   ow x0 K4 m (x5_ + 1)
def pa (x0 : af) (K6 : Unit → Bool) : Nat → Int → Bool
 | 0, x6_ => K6 ()
 | m + 1, x6_ =>
   if (decide (200 < ((ix x0.Registers x6_).Size))) then
    false
   else
   pa x0 K6 m (x6_ + 1)
def vx (x0 : af) : Bool :=
 if ((((decide (20 < (x0.Headers.length : Int))) || (decide (30 < (x0.Metadata.length : Int)))) || (decide (20 < (x0.Registers.length : Int)))) || (decide (40 < (x0.Actions.length : Int)))) then
  false
 else
 oq x0 (fun (_ : Unit) =>
  ow x0 (fun (_ : Unit) =>
   pa x0 (fun (_ : Unit) =>
    true) (Int.toNat ((x0.Registers.length : Int) - 0)) 0) (Int.toNat ((x0.Headers.length : Int) - 0)) 0) (Int.toNat ((x0.Actions.length : Int) - 0)) 0
def tn : Bool := true
def jf (x0 : List (List Bool)) (K0 : (List Bool) → (List Bool)) : Nat → Int → (List Bool) → (List Bool)
 | 0, x8_, zE102 => K0 zE102
 | m + 1, x8_, zE102 =>
   jf x0 K0 m (x8_ + 1) (zE102 ++ (ix x0 x8_))
def mo (x0 : List (List Bool)) : (List Bool) :=
 jf x0 (fun (zE102_107 : List Bool) =>
  zE102_107) (Int.toNat ((x0.length : Int) - 0)) 0 ([] : List Bool)
def ia (x0 : List (List (BitVec 32))) (K0 : (List (BitVec 32)) → (List (BitVec 32))) : Nat → Int → (List (BitVec 32)) → (List (BitVec 32))
 | 0, x8_, zE102 => K0 zE102
 | m + 1, x8_, zE102 =>
   ia x0 K0 m (x8_ + 1) (zE102 ++ (ix x0 x8_))
def ld (x0 : List (List (BitVec 32))) : (List (BitVec 32)) :=
 ia x0 (fun (zE102_107 : List (BitVec 32)) =>
  zE102_107) (Int.toNat ((x0.length : Int) - 0)) 0 ([] : List (BitVec 32))
def jg (x0 : List (List UInt8)) (K0 : (List UInt8) → (List UInt8)) : Nat → Int → (List UInt8) → (List UInt8)
 | 0, x8_, zE102 => K0 zE102
 | m + 1, x8_, zE102 =>
   jg x0 K0 m (x8_ + 1) (zE102 ++ (ix x0 x8_))
def mr (x0 : List (List UInt8)) : (List UInt8) :=
 jg x0 (fun (zE102_107 : List UInt8) =>
  zE102_107) (Int.toNat ((x0.length : Int) - 0)) 0 ([] : List UInt8)
def wy (x0 : ai) : ai := x0
def jk (x0 : List cm) (x1 : Int) : cm :=
 if ((decide (x1 < 0)) || (decide ((x0.length : Int) ≤ x1))) then
  ({ Name := ([] : List UInt8), Fields := ([] : List aw) } : cm)
 else
 (ix x0 x1)
def nt (x0 : af) (x1 : Int) : (List aw) :=
 if (decide (x1 = (-1))) then
  x0.Metadata
 else
 LET (jk x0.Headers x1) fun y104 =>
 y104.Fields
def gu (x0 : List aw) (x1 : Int) : aw :=
 if ((decide (x1 < 0)) || (decide ((x0.length : Int) ≤ x1))) then
  ({ Name := ([] : List UInt8), Width := 0 } : aw)
 else
 (ix x0 x1)
def jd (x0 : List Int) (K0 : Unit → Bool) : Nat → Int → Bool
 | 0, x7_ => K0 ()
 | m + 1, x7_ =>
   if ((decide ((ix x0 x7_) < 1)) || (decide (32 < (ix x0 x7_)))) then
    false
   else
   jd x0 K0 m (x7_ + 1)
def iq (x0 : List Int) : Bool :=
 jd x0 (fun (_ : Unit) =>
  true) (Int.toNat ((x0.length : Int) - 0)) 0
def ca (x0 : Int) : (BitVec 32) :=
 LET (iq ([x0] : List Int)) fun y102 =>
 if (!y102) then
  0#32
 else
 (4294967295#32 >>> (wr (32 - x0)).toNat)
def ks (x0 : af) (x1 : ak) : Int :=
 LET (nt x0 x1.Header) fun y101 =>
 LET (gu y101 x1.Field) fun y103 =>
 LET (ca y103.Width) fun y105 =>
 if (decide (y105 = 0#32)) then
  0
 else
 y103.Width
def ga (x0 : List (BitVec 32)) (x1 : Int) : Bool :=
 ((decide (0 ≤ x1)) && (decide (x1 < (x0.length : Int))))
def ii (x0 : List (List (BitVec 32))) (x1 : Int) : (List (BitVec 32)) :=
 if ((decide (x1 < 0)) || (decide ((x0.length : Int) ≤ x1))) then
  ([] : List (BitVec 32))
 else
 (ix x0 x1)
def nl (x0 : List Bool) (x1 : Int) : Bool :=
 if ((decide (x1 < 0)) || (decide ((x0.length : Int) ≤ x1))) then
  false
 else
 (ix x0 x1)
def fx (x0 : ai) (x1 : ak) : (List (BitVec 32)) × Bool :=
 if (decide (x1 = ({ Header := (-1), Field := x1.Field } : ak))) then
  LET (ga x0.Metd x1.Field) fun y104 =>
  (x0.Metd, y104)
 else
 LET (ii x0.Fields x1.Header) fun y106 =>
 LET (nl x0.Valid x1.Header) fun y109 =>
 (y106, (y109 && (ga y106 x1.Field)))
def ql (x0 : af) (x1 : ai) (x2 : ak) (x3 : BitVec 32) : ai :=
 if (fx x1 x2).2 && decide (0 < ks x0 x2) then putF x1 x2 (x3 &&& ca (ks x0 x2)) else x1
def po (x0 : List (List (BitVec 32))) : List (List (BitVec 32)) := x0
def ky (x0 : UInt8) : Bool :=
 (((decide ((97 : UInt8) ≤ x0)) && (decide (x0 ≤ (122 : UInt8)))) || ((decide ((65 : UInt8) ≤ x0)) && (decide (x0 ≤ (90 : UInt8)))))
def lf (x0 : List UInt8) (x1 : UInt8 → Bool) (K0 : Int → Int) : Nat → Int → Int
 | 0, x5_ => K0 x5_
 | m + 1, x5_ =>
   if ((decide (x5_ < (x0.length : Int))) && (x1 (ix x0 x5_))) then
    lf x0 x1 K0 m (x5_ + 1)
   else
   K0 x5_
def si (x0 : List UInt8) (x1 : UInt8 → Bool) : Int :=
 lf x0 x1 (fun (x5_107 : Int) =>
  x5_107) (Int.toNat ((x0.length : Int) - 0)) 0
def ll (x0 : UInt8) : Bool :=
 ((decide ((48 : UInt8) ≤ x0)) && (decide (x0 ≤ (57 : UInt8))))
def jt (x0 : UInt8) : Bool :=
 LET (ky x0) fun y101 =>
 ((y101 || (ll x0)) || (decide (x0 = (95 : UInt8))))
def jp (x0 : List UInt8) : Bool :=
 if (((decide ((x0.length : Int) = 0)) || (decide (16 < (x0.length : Int)))) || (!(ky (ix x0 0)))) then
  false
 else
 LET (si x0 jt) fun y105 =>
 (decide (y105 = (x0.length : Int)))
def fk (x0 : aw) (c0 : aw) : Bool :=
 (decide (x0.Name = c0.Name))
def dk (x0 : List aw) (x1 : aw → Bool) (K0 : Unit → Int) : Nat → Int → Int
 | 0, x8_ => K0 ()
 | m + 1, x8_ =>
   if (x1 (ix x0 x8_)) then
    x8_
   else
   dk x0 x1 K0 m (x8_ + 1)
def gg (x0 : List aw) (x1 : aw → Bool) : Int :=
 dk x0 x1 (fun (_ : Unit) =>
  (-1)) (Int.toNat ((x0.length : Int) - 0)) 0
def ft (x0 : List aw) (x1 : aw → Bool) : Bool :=
 LET (gg x0 x1) fun y101 =>
 (decide (0 ≤ y101))
def gj (x0 : bz) (K1 : Unit → Int) : Nat → Int → Int
 | 0, x24_ => K1 ()
 | m + 1, x24_ =>
   LET (jp ((ix x0.Params x24_).Name)) fun y114 =>
   if (!y114) then
    6
   else
   if ((decide (((ix x0.Params x24_).Width) < 1)) || (decide (32 < ((ix x0.Params x24_).Width)))) then
    10
   else
   LET (ft (sub x0.Params 0 x24_) (fun a_ => fk a_ (ix x0.Params x24_))) fun y122 =>
   if y122 then
    7
   else
   gj x0 K1 m (x24_ + 1)
def ly (x0 : bz) : Int :=
 LET (jp x0.Name) fun y101 =>
 if (!y101) then
  6
 else
 if ((decide (4 < (x0.Params.length : Int))) || (decide (12 < (x0.Body.length : Int)))) then
  12
 else
 gj x0 (fun (_ : Unit) =>
  0) (Int.toNat ((x0.Params.length : Int) - 0)) 0
def pq (x0 : af) (x1 : ak) : Int × Bool :=
 LET (fun (x6_109 : List aw) =>
  if ((decide (x1.Field < 0)) || (decide ((x6_109.length : Int) ≤ x1.Field))) then
   (0, false)
  else
  ((ix x6_109 x1.Field).Width, true)) fun k109 =>
 if (!decide (x1.Header = (-1))) then
  if ((decide (x1.Header < 0)) || (decide ((x0.Headers.length : Int) ≤ x1.Header))) then
   (0, false)
  else
  k109 ((ix x0.Headers x1.Header).Fields)
 else
 k109 x0.Metadata
def cj (x0 : Int) : Int :=
 LET (fun (x4_104 : Bool) =>
  if x4_104 then
   0
  else
  LET (fun (x9_109 : Bool) =>
   if x9_109 then
    1
   else
   LET (fun (x14_118 : Bool) =>
    if x14_118 then
     2
    else
    if (decide (x0 = 17)) then
     3
    else
    (-1)) fun k118 =>
   if (decide (x0 = 9)) then
    k118 (decide (x0 = 9))
   else
   if (decide (x0 = 10)) then
    k118 (decide (x0 = 10))
   else
   if (decide (x0 = 11)) then
    k118 (decide (x0 = 11))
   else
   if (decide (x0 = 12)) then
    k118 (decide (x0 = 12))
   else
   if (decide (x0 = 13)) then
    k118 (decide (x0 = 13))
   else
   if (decide (x0 = 14)) then
    k118 (decide (x0 = 14))
   else
   if (decide (x0 = 15)) then
    k118 (decide (x0 = 15))
   else
   k118 (decide (x0 = 16))) fun k109 =>
  if (decide (x0 = 5)) then
   k109 (decide (x0 = 5))
  else
  if (decide (x0 = 6)) then
   k109 (decide (x0 = 6))
  else
  if (decide (x0 = 7)) then
   k109 (decide (x0 = 7))
  else
  k109 (decide (x0 = 8))) fun k104 =>
 if (decide (x0 = 1)) then
  k104 (decide (x0 = 1))
 else
 if (decide (x0 = 2)) then
  k104 (decide (x0 = 2))
 else
 if (decide (x0 = 3)) then
  k104 (decide (x0 = 3))
 else
 k104 (decide (x0 = 4))
def iv (x0 : Int) : Int × Int :=
 if ((decide (x0 < 1)) || (decide (32 < x0))) then
  (0, 10)
 else
 (x0, 0)
def kp (x0 : aj) (x1 : Int) (x2 : Int) : aw × Bool :=
 LET (fun (x8_115 : List aw) =>
  if ((decide (x2 < 0)) || (decide ((x8_115.length : Int) ≤ x2))) then
   (({ Name := ([] : List UInt8), Width := 0 } : aw), false)
  else
  ((ix x8_115 x2), true)) fun k115 =>
 if (!decide (x1 = (-1))) then
  if ((decide (x1 < 0)) || (decide ((x0.Program.Headers.length : Int) ≤ x1))) then
   (({ Name := ([] : List UInt8), Width := 0 } : aw), false)
  else
  k115 ((ix x0.Program.Headers x1).Fields)
 else
 k115 x0.Program.Metadata
def cp (x0 : aj) (x1 : aa) : Int × Int :=
 if (decide (x1.Op = 1)) then
  LET (iv x1.W) fun y102 =>
  if ((decide (y102.2 = 0)) && ((decide (x1.N < 0)) || (decide (((ca y102.1).toNat : Int) < x1.N)))) then
   (0, 9)
  else
  (y102.1, y102.2)
 else
 if (decide (x1.Op = 2)) then
  LET (kp x0 x1.N x1.W) fun y108 =>
  if (!y108.2) then
   (0, 8)
  else
  LET (iv y108.1.Width) fun y114 =>
  (y114.1, y114.2)
 else
 if (decide (x1.Op = 3)) then
  if ((decide (x1.N < 0)) || (decide ((x0.Params.length : Int) ≤ x1.N))) then
   (0, 8)
  else
  LET (iv ((ix x0.Params x1.N).Width)) fun y121 =>
  (y121.1, y121.2)
 else
 if ((decide (x1.N < 0)) || (decide ((x0.Program.Headers.length : Int) ≤ x1.N))) then
  (0, 8)
 else
 (1, 0)
def fd (x0 : aa) (x1 : List Int) : Int × Int :=
 LET (fun (x10_102 : Bool) =>
  if x10_102 then
   if ((decide (x0.N < 0)) || (decide (31 < x0.N))) then
    (0, 9)
   else
   LET (cj x0.Op) fun y106 =>
   if ((decide (y106 = 2)) && (!decide ((ix x1 0) = (ix x1 1)))) then
    (0, 10)
   else
   if ((decide (x0.Op = 15)) || (decide (x0.Op = 16))) then
    (1, 0)
   else
   ((ix x1 0), 0)
  else
  if (decide (x0.Op = 8)) then
   if (decide (x0.N < 0)) then
    (0, 9)
   else
   LET (iv x0.W) fun y116 =>
   if ((!decide (y116.2 = 0)) || (decide ((wr ((ix x1 0) - x0.W)) < x0.N))) then
    (0, 10)
   else
   (x0.W, 0)
  else
  if (decide (x0.Op = 14)) then
   LET (iv (wr ((ix x1 0) + (ix x1 1)))) fun y123 =>
   (y123.1, y123.2)
  else
  if (decide (x0.Op = 17)) then
   if ((!decide ((ix x1 0) = 1)) || (!decide ((ix x1 1) = (ix x1 2)))) then
    (0, 10)
   else
   ((ix x1 1), 0)
  else
  LET (cj x0.Op) fun y131 =>
  if ((decide (y131 = 2)) && (!decide ((ix x1 0) = (ix x1 1)))) then
   (0, 10)
  else
  if ((decide (x0.Op = 15)) || (decide (x0.Op = 16))) then
   (1, 0)
  else
  ((ix x1 0), 0)) fun k102 =>
 if (decide (x0.Op = 6)) then
  k102 (decide (x0.Op = 6))
 else
 k102 (decide (x0.Op = 7))
def cx (x0 : aj) (x1 : List aa) (rec_ : aj → (List aa) → Int → (Int × Int × Int)) (K1 : Int → (List Int) → (Int × Int × Int)) : Nat → Int → Int → (List Int) → (Int × Int × Int)
 | 0, x7_, x44_, zE109 => K1 x7_ zE109
 | m + 1, x7_, x44_, zE109 =>
   LET (rec_ x0 x1 x7_) fun y112 =>
   if (!decide (y112.2.2 = 0)) then
    (0, 0, y112.2.2)
   else
   cx x0 x1 rec_ K1 m y112.2.1 (x44_ + 1) (zE109.set x44_.toNat y112.1)
def dt (rec_ : aj → (List aa) → Int → (Int × Int × Int)) (x0 : aj) (x1 : List aa) (x2 : Int) : Int × Int × Int :=
 if (decide ((x1.length : Int) ≤ x2)) then
  (0, 0, 3)
 else
 LET (cj ((ix x1 x2).Op)) fun y103 =>
 if (decide (y103 < 0)) then
  (0, 0, 11)
 else
 if (decide (y103 = 0)) then
  LET (cp x0 (ix x1 x2)) fun y107 =>
  (y107.1, (wr (x2 + 1)), y107.2)
 else
 cx x0 x1 rec_ (fun (x7_116 : Int) (zE109_116 : List Int) =>
  LET (fd (ix x1 x2) zE109_116) fun y118 =>
  (y118.1, x7_116, y118.2)) (Int.toNat (y103 - 0)) (wr (x2 + 1)) 0 ([0, 0, 0] : List Int)
def dc : Nat → aj → (List aa) → Int → (Int × Int × Int)
 | 0, x0, x1, x2 => (0, 0, 1)
 | n_ + 1, x0, x1, x2 => dt (dc n_) x0 x1 x2
def cn (x0 : aj) (x1 : List aa) (x2 : Int) : Int × Int × Int := dc ((x1.length - x2.toNat) + 1) x0 x1 x2
def jq (x0 : List aa) (x1 : aj) : Int × Int :=
 if (decide (24 < (x0.length : Int))) then
  (0, 12)
 else
 LET (cn x1 x0 0) fun y102 =>
 if (!decide (y102.2.2 = 0)) then
  (0, y102.2.2)
 else
 if (decide (y102.2.1 < (x0.length : Int))) then
  (0, 4)
 else
 (y102.1, 0)
def je (x0 : dh) (x1 : List aa) (x2 : Int) : Int :=
 LET (jq x1 x0.scope) fun y102 =>
 if ((decide (y102.2 = 0)) && (!decide (y102.1 = x2))) then
  10
 else
 y102.2
def fu (x0 : dh) (x1 : av) : Int :=
 LET (pq x0.scope.Program x1.Dst) fun y107 =>
 if (decide (x1.Kind = 1)) then
  if (!y107.2) then
   8
  else
  LET (je x0 x1.Value y107.1) fun y113 =>
  y113
 else
 LET (fun (x43_115 : Bool) =>
  if x43_115 then
   if ((decide (x1.Header < 0)) || (decide ((x0.scope.Program.Headers.length : Int) ≤ x1.Header))) then
    8
   else
   0
  else
  LET (fun (x57_121 : Bool) =>
   if x57_121 then
    if ((!((decide (0 ≤ x1.Register)) && (decide (x1.Register < (x0.scope.Program.Registers.length : Int))))) || ((decide (x1.Kind = 4)) && (!y107.2))) then
     8
    else
    LET (jq x1.Index x0.scope) fun y128 =>
    if (!decide (y128.2 = 0)) then
     y128.2
    else
    if (decide (x1.Kind = 5)) then
     LET (je x0 x1.Value ((ix x0.scope.Program.Registers x1.Register).Width)) fun y134 =>
     y134
    else
    if (!decide (y107.1 = ((ix x0.scope.Program.Registers x1.Register).Width))) then
     10
    else
    0
   else
   11) fun k121 =>
  if (decide (x1.Kind = 4)) then
   k121 (decide (x1.Kind = 4))
  else
  k121 (decide (x1.Kind = 5))) fun k115 =>
 if (decide (x1.Kind = 2)) then
  k115 (decide (x1.Kind = 2))
 else
 k115 (decide (x1.Kind = 3))
def jo (x0 : af) (x1 : Int) (K0 : Unit → (Int × Int)) : Nat → Int → (Int × Int)
 | 0, x37_ => K0 ()
 | m + 1, x37_ =>
   LET (fu ({ scope := ({ Program := x0, Params := (ix x0.Actions x1).Params } : aj) } : dh) (ix ((ix x0.Actions x1).Body) x37_)) fun y124 =>
   if (!decide (y124 = 0)) then
    (x37_, y124)
   else
   jo x0 x1 K0 m (x37_ + 1)
def jy (x0 : af) (x1 : Int) : Int × Int :=
 if ((decide (x1 < 0)) || (decide ((x0.Actions.length : Int) ≤ x1))) then
  ((-1), 8)
 else
 LET (ly (ix x0.Actions x1)) fun y109 =>
 if (!decide (y109 = 0)) then
  ((-1), y109)
 else
 jo x0 x1 (fun (_ : Unit) =>
  (0, 0)) (Int.toNat ((((ix x0.Actions x1).Body).length : Int) - 0)) 0
def sa (x0 : BitVec 32) (x1 : Int) : Bool :=
 LET (iq ([x1] : List Int)) fun y102 =>
 (y102 && (decide (x0 ≤ (ca x1))))
def ji (x0 : af) (x1 : bm) (K0 : Unit → Int) : Nat → Int → Int
 | 0, x35_ => K0 ()
 | m + 1, x35_ =>
   LET (sa (ix x1.Args x35_) ((ix ((ix x0.Actions x1.Action).Params) x35_).Width)) fun y113 =>
   if (!y113) then
    9
   else
   ji x0 x1 K0 m (x35_ + 1)
def ik (x0 : af) (x1 : bm) : Int :=
 if ((decide (x1.Action < 0)) || (decide ((x0.Actions.length : Int) ≤ x1.Action))) then
  8
 else
 if (!decide ((x1.Args.length : Int) = (((ix x0.Actions x1.Action).Params).length : Int))) then
  2
 else
 ji x0 x1 (fun (_ : Unit) =>
  0) (Int.toNat ((x1.Args.length : Int) - 0)) 0
def ww (x0 : ai) (x1 : ak) : (BitVec 32) :=
 LET (fx x0 x1) fun y101 =>
 if (!y101.2) then
  0#32
 else
 (ix y101.1 x1.Field)
def dz (x0 : bg) (x1 : aa) : am × bg :=
 LET (cp x0.scope x1) fun y104 =>
 if (decide (x1.Op = 1)) then
  LET (ca y104.1) fun y106 =>
  (({ v := ((BitVec.ofInt 32 x1.N) &&& y106), w := y104.1 } : am), x0)
 else
 if (decide (x1.Op = 2)) then
  LET (ww x0.env ({ Header := x1.N, Field := x1.W } : ak)) fun y111 =>
  LET (ca y104.1) fun y112 =>
  (({ v := (y111 &&& y112), w := y104.1 } : am), x0)
 else
 if (decide (x1.Op = 3)) then
  if (decide (x1.N < (x0.args.length : Int))) then
   LET (ca y104.1) fun y119 =>
   (({ v := ((ix x0.args x1.N) &&& y119), w := y104.1 } : am), x0)
  else
  LET (ca y104.1) fun y122 =>
  (({ v := (0#32 &&& y122), w := y104.1 } : am), x0)
 else
 if (decide (x1.Op = 4)) then
  if ((decide (x1.N < (x0.env.Valid.length : Int))) && (ix x0.env.Valid x1.N)) then
   LET (ca y104.1) fun y132 =>
   (({ v := (1#32 &&& y132), w := y104.1 } : am), x0)
  else
  LET (ca y104.1) fun y135 =>
  (({ v := (0#32 &&& y135), w := y104.1 } : am), x0)
 else
 LET (ca y104.1) fun y138 =>
 (({ v := (0#32 &&& y138), w := y104.1 } : am), x0)
def rd (x0 : BitVec 32) (x1 : Int) : (BitVec 32) :=
 LET (ca x1) fun y101 =>
 ((~~~x0) &&& y101)
def qx (x0 : BitVec 32) (x1 : Int) (x2 : Int) : (BitVec 32) :=
 LET (ca x2) fun y101 =>
 ((x0 <<< (max x1 0).toNat) &&& y101)
def rc (x0 : BitVec 32) (x1 : Int) (x2 : Int) : (BitVec 32) :=
 LET (ca x2) fun y101 =>
 ((x0 &&& y101) >>> (max x1 0).toNat)
def pn (x0 : BitVec 32) (x1 : Int) (x2 : Int) : (BitVec 32) :=
 LET (iq ([x2] : List Int)) fun y102 =>
 if (((!y102) || (decide (x1 < 0))) || (decide ((wr (32 - x2)) < x1))) then
  0#32
 else
 LET (ca x2) fun y106 =>
 ((x0 >>> x1.toNat) &&& y106)
def lw (x0 : aa) (x1 : am) : am :=
 if (decide (x0.Op = 5)) then
  LET (rd x1.v x1.w) fun y104 =>
  ({ v := y104, w := x1.w } : am)
 else
 if (decide (x0.Op = 6)) then
  LET (qx x1.v x0.N x1.w) fun y107 =>
  ({ v := y107, w := x1.w } : am)
 else
 if (decide (x0.Op = 7)) then
  LET (rc x1.v x0.N x1.w) fun y110 =>
  ({ v := y110, w := x1.w } : am)
 else
 LET (pn x1.v x0.N x0.W) fun y112 =>
 ({ v := y112, w := x0.W } : am)
def rl (x0 : BitVec 32) (x1 : BitVec 32) (x2 : Int) : (BitVec 32) :=
 LET (ca x2) fun y101 =>
 ((x0 + x1) &&& y101)
def rm (x0 : BitVec 32) (x1 : BitVec 32) (x2 : Int) : (BitVec 32) :=
 LET (ca x2) fun y101 =>
 ((x0 - x1) &&& y101)
def mv (x0 : BitVec 32) (x1 : Int) (x2 : BitVec 32) (x3 : Int) : (BitVec 32) × Bool :=
 LET (iq ([x1, x3] : List Int)) fun y102 =>
 if ((!y102) || (decide (32 < (wr (x1 + x3))))) then
  (0#32, false)
 else
 LET (ca x1) fun y105 =>
 LET (ca x3) fun y106 =>
 ((((x0 &&& y105) <<< x3.toNat) ||| (x2 &&& y106)), true)
def re (x0 : Bool) : am :=
 if x0 then
  ({ v := 1#32, w := 1 } : am)
 else
 ({ v := 0#32, w := 1 } : am)
def ke (x0 : Int) (x1 : am) (x2 : am) : am :=
 if (decide (x0 = 9)) then
  LET (rl x1.v x2.v x1.w) fun y104 =>
  ({ v := y104, w := x1.w } : am)
 else
 if (decide (x0 = 10)) then
  LET (rm x1.v x2.v x1.w) fun y107 =>
  ({ v := y107, w := x1.w } : am)
 else
 if (decide (x0 = 11)) then
  ({ v := (x1.v &&& x2.v), w := x1.w } : am)
 else
 if (decide (x0 = 12)) then
  ({ v := (x1.v ||| x2.v), w := x1.w } : am)
 else
 if (decide (x0 = 13)) then
  ({ v := (x1.v ^^^ x2.v), w := x1.w } : am)
 else
 if (decide (x0 = 14)) then
  LET (mv x1.v x1.w x2.v x2.w) fun y116 =>
  ({ v := y116.1, w := (wr (x1.w + x2.w)) } : am)
 else
 if (decide (x0 = 15)) then
  LET (re (decide (x1.v = x2.v))) fun y119 =>
  y119
 else
 LET (re (decide (x1.v < x2.v))) fun y122 =>
 y122
def fh (rec_ : bg → (am × bg)) (x0 : bg) : am × bg :=
 LET (cj ((ix x0.nodes x0.next).Op)) fun y111 =>
 if (decide (y111 = 0)) then
  LET (dz ({ scope := x0.scope, env := x0.env, args := x0.args, nodes := x0.nodes, next := (wr (x0.next + 1)) } : bg) (ix x0.nodes x0.next)) fun y113 =>
  (y113.1, y113.2)
 else
 if (decide (y111 = 1)) then
  LET (rec_ ({ scope := x0.scope, env := x0.env, args := x0.args, nodes := x0.nodes, next := (wr (x0.next + 1)) } : bg)) fun y119 =>
  LET (lw (ix x0.nodes x0.next) y119.1) fun y122 =>
  (y122, y119.2)
 else
 if (decide (y111 = 2)) then
  LET (rec_ ({ scope := x0.scope, env := x0.env, args := x0.args, nodes := x0.nodes, next := (wr (x0.next + 1)) } : bg)) fun y127 =>
  LET (rec_ y127.2) fun y133 =>
  LET (ke ((ix x0.nodes x0.next).Op) y127.1 y133.1) fun y139 =>
  (y139, y133.2)
 else
 LET (rec_ ({ scope := x0.scope, env := x0.env, args := x0.args, nodes := x0.nodes, next := (wr (x0.next + 1)) } : bg)) fun y143 =>
 LET (rec_ y143.2) fun y149 =>
 LET (rec_ y149.2) fun y155 =>
 if (decide (y143.1.v = 1#32)) then
  (y149.1, y155.2)
 else
 (y155.1, y155.2)
def ck : Nat → bg → (am × bg)
 | 0, x0 => (default, { x0 with next := (cn x0.scope x0.nodes x0.next).2.1 })
 | n_ + 1, x0 => fh (ck n_) x0
def fj (x0 : bg) : am × bg := ck (x0.nodes.length - x0.next.toNat + 1) x0
def qc (x0 : List aa) (x1 : aj) (x2 : ai) (x3 : List (BitVec 32)) : (BitVec 32) :=
 LET (jq x0 x1) fun y101 =>
 if (!decide (y101.2 = 0)) then
  0#32
 else
 LET (fj ({ scope := x1, env := x2, args := x3, nodes := x0, next := 0 } : bg)) fun y108 =>
 y108.1.v
def iz (x0 : bf) (x1 : List aa) : (BitVec 32) :=
 LET (qc x1 x0.scope x0.env x0.args) fun y104 =>
 y104
def jw (x0 : bf) (x1 : av) : bf :=
 LET (iz x0 x1.Value) fun y106 =>
 LET (ql x0.scope.Program x0.env x1.Dst y106) fun y108 =>
 ({ scope := x0.scope, args := x0.args, env := y108, regs := x0.regs } : bf)
def ir (x0 : List cm) (x1 : Int) : Bool :=
 ((decide (0 ≤ x1)) && (decide (x1 < (x0.length : Int))))
def ln (x0 : List Bool) (x1 : Int) : Bool :=
 ((decide (0 ≤ x1)) && (decide (x1 < (x0.length : Int))))
def ju (x0 : af) (x1 : ai) (x2 : Int) (x3 x4 : Bool) : ai :=
 if (!ir x0.Headers x2 || !ln x1.Valid x2) || (x4 && decide (ix x1.Valid x2 = x3)) then x1 else swE x1 x2 x3
def pu (x0 : af) (x1 : ai) (x2 : Int) : ai :=
 LET (ju x0 x1 x2 true true) fun y103 =>
 y103
def jh (x0 : bf) (x1 : av) : bf :=
 LET (pu x0.scope.Program x0.env x1.Header) fun y104 =>
 ({ scope := x0.scope, args := x0.args, env := y104, regs := x0.regs } : bf)
def nf (x0 : af) (x1 : ai) (x2 : Int) : ai :=
 LET (ju x0 x1 x2 false false) fun y103 =>
 y103
def ig (x0 : bf) (x1 : av) : bf :=
 LET (nf x0.scope.Program x0.env x1.Header) fun y104 =>
 ({ scope := x0.scope, args := x0.args, env := y104, regs := x0.regs } : bf)
def fb (x0 : dq) (x1 : Int) (x2 : BitVec 32) : Bool :=
 if (((decide (x1 < 0)) || (decide ((x0.p.Registers.length : Int) ≤ x1))) || (decide ((x0.cells.length : Int) ≤ x1))) then
  false
 else
 ((decide ((x2.toNat : Int) < ((ix x0.p.Registers x1).Size))) && (decide ((x2.toNat : Int) < ((ix x0.cells x1).length : Int))))
def pt (x0 : af) (x1 : List (List (BitVec 32))) (x2 : Int) (x3 : BitVec 32) : (BitVec 32) :=
 LET (fb ({ p := x0, cells := x1 } : dq) x2 x3) fun y102 =>
 if (!y102) then
  0#32
 else
 (ix (ix x1 x2) (x3.toNat : Int))
def kx (x0 : bf) (x1 : av) : bf :=
 LET (iz x0 x1.Index) fun y105 =>
 LET (pt x0.scope.Program x0.regs x1.Register y105) fun y107 =>
 LET (ql x0.scope.Program x0.env x1.Dst y107) fun y112 =>
 ({ scope := x0.scope, args := x0.args, env := y112, regs := x0.regs } : bf)
def jn (x0 : af) (x1 : List (List (BitVec 32))) (x2 : Int) (x3 x4 : BitVec 32) : List (List (BitVec 32)) :=
 if fb { p := x0, cells := x1 } x2 x3 && decide (0#32 < ca (ix x0.Registers x2).Width) then x1.set x2.toNat ((ix x1 x2).set x3.toNat (x4 &&& ca (ix x0.Registers x2).Width)) else x1
def km (x0 : bf) (x1 : av) : bf :=
 LET (iz x0 x1.Index) fun y105 =>
 LET (iz x0 x1.Value) fun y108 =>
 LET (jn x0.scope.Program x0.regs x1.Register y105 y108) fun y110 =>
 ({ scope := x0.scope, args := x0.args, env := x0.env, regs := y110 } : bf)
def gf (x0 : af) (x1 : bm) (K0 : bf → (ai × (List (List (BitVec 32))))) : Nat → Int → bf → (ai × (List (List (BitVec 32))))
 | 0, x67_, zE109 => K0 zE109
 | m + 1, x67_, zE109 =>
   if (decide (((ix ((ix x0.Actions x1.Action).Body) x67_).Kind) = 2)) then
    LET (jh zE109 (ix ((ix x0.Actions x1.Action).Body) x67_)) fun y135 =>
    gf x0 x1 K0 m (x67_ + 1) y135
   else
   if (decide (((ix ((ix x0.Actions x1.Action).Body) x67_).Kind) = 3)) then
    LET (ig zE109 (ix ((ix x0.Actions x1.Action).Body) x67_)) fun y138 =>
    gf x0 x1 K0 m (x67_ + 1) y138
   else
   if (decide (((ix ((ix x0.Actions x1.Action).Body) x67_).Kind) = 4)) then
    LET (kx zE109 (ix ((ix x0.Actions x1.Action).Body) x67_)) fun y141 =>
    gf x0 x1 K0 m (x67_ + 1) y141
   else
   if (decide (((ix ((ix x0.Actions x1.Action).Body) x67_).Kind) = 5)) then
    LET (km zE109 (ix ((ix x0.Actions x1.Action).Body) x67_)) fun y144 =>
    gf x0 x1 K0 m (x67_ + 1) y144
   else
   LET (jw zE109 (ix ((ix x0.Actions x1.Action).Body) x67_)) fun y146 =>
   gf x0 x1 K0 m (x67_ + 1) y146
def mf (x0 : af) (x1 : bm) (x2 : ai) (x3 : List (List (BitVec 32))) : ai × (List (List (BitVec 32))) :=
 LET (wy x2) fun y103 =>
 LET (po x3) fun y105 =>
 LET (jy x0 x1.Action) fun y110 =>
 if ((!decide (y110.2 = 0)) || (!decide ((ik x0 x1) = 0))) then
  (y103, y105)
 else
 gf x0 x1 (fun (zE109_148 : bf) =>
  (zE109_148.env, zE109_148.regs)) (Int.toNat ((((ix x0.Actions x1.Action).Body).length : Int) - 0)) 0 ({ scope := ({ Program := x0, Params := (ix x0.Actions x1.Action).Params } : aj), args := x1.Args, env := y103, regs := y105 } : bf)
def mn (x0 : UInt8) : Bool :=
 (((decide ((97 : UInt8) ≤ x0)) && (decide (x0 ≤ (122 : UInt8)))) || ((decide ((65 : UInt8) ≤ x0)) && (decide (x0 ≤ (90 : UInt8)))))
def ou (x0 : UInt8) : Bool :=
 ((decide ((48 : UInt8) ≤ x0)) && (decide (x0 ≤ (57 : UInt8))))
def ip (x0 : List UInt8) (K0 : Unit → Bool) : Nat → Int → Bool
 | 0, x3_ => K0 ()
 | m + 1, x3_ =>
   LET (mn (ix x0 x3_)) fun y107 =>
   if (((!y107) && (!(ou (ix x0 x3_)))) && (!decide ((ix x0 x3_) = (95 : UInt8)))) then
    false
   else
   ip x0 K0 m (x3_ + 1)
def iy (x0 : List UInt8) : Bool :=
 if (((decide (x0 = ([] : List UInt8))) || (decide (16 < (x0.length : Int)))) || (!(mn (ix x0 0)))) then
  false
 else
 ip x0 (fun (_ : Unit) =>
  true) (Int.toNat ((x0.length : Int) - 0)) 0
def kb (x0 : List aw) (x3_ : Int) (K3 : Unit → Int) : Nat → Int → Int
 | 0, x4_ => K3 ()
 | m + 1, x4_ =>
   if (decide (((ix x0 x4_).Name) = ((ix x0 x3_).Name))) then
    7
   else
   kb x0 x3_ K3 m (x4_ + 1)
def kh (x0 : List aw) (K0 : Unit → Int) : Nat → Int → Int
 | 0, x3_ => K0 ()
 | m + 1, x3_ =>
   LET (iy ((ix x0 x3_).Name)) fun y104 =>
   if (!y104) then
    6
   else
   if ((decide (((ix x0 x3_).Width) < 1)) || (decide (32 < ((ix x0 x3_).Width)))) then
    10
   else
   kb x0 x3_ (fun (_ : Unit) =>
    kh x0 K0 m (x3_ + 1)) (Int.toNat (x3_ - 0)) 0
def pd (x0 : List aw) : Int :=
 kh x0 (fun (_ : Unit) =>
  0) (Int.toNat ((x0.length : Int) - 0)) 0
def nm (x0 : af) (x1 : Int) : aj :=
 ({ Program := x0, Params := (ix x0.Actions x1).Params } : aj)
def md (x0 : af) (x1 : ak) : Int × Bool :=
 LET (fun (x6_109 : List aw) =>
  if ((decide (x1.Field < 0)) || (decide ((x6_109.length : Int) ≤ x1.Field))) then
   (0, false)
  else
  ((ix x6_109 x1.Field).Width, true)) fun k109 =>
 if (!decide (x1.Header = (-1))) then
  if ((decide (x1.Header < 0)) || (decide ((x0.Headers.length : Int) ≤ x1.Header))) then
   (0, false)
  else
  k109 ((ix x0.Headers x1.Header).Fields)
 else
 k109 x0.Metadata
def fe (x0 : Int) : Int :=
 if ((decide (1 ≤ x0)) && (decide (x0 ≤ 4))) then
  0
 else
 if ((decide (5 ≤ x0)) && (decide (x0 ≤ 8))) then
  1
 else
 if ((decide (9 ≤ x0)) && (decide (x0 ≤ 16))) then
  2
 else
 if (decide (x0 = 17)) then
  3
 else
 (-1)
def ov (x0 : Int) : Int × Int :=
 if ((decide (x0 < 1)) || (decide (32 < x0))) then
  (0, 10)
 else
 (x0, 0)
def en (x0 : Int) : Bool :=
 ((decide (1 ≤ x0)) && (decide (x0 ≤ 32)))
def ot (K0 : (BitVec 64) → (BitVec 64)) : Nat → (BitVec 64) → Int → (BitVec 64)
 | 0, x3_, x4_ => K0 x3_
 | m + 1, x3_, x4_ =>
   ot K0 m (2#64 * x3_) (x4_ + 1)
def io (x0 : Int) : (BitVec 64) :=
 ot (fun (x3_103 : BitVec 64) =>
  x3_103) (Int.toNat (x0 - 0)) 1#64 0
def mw (x0 : Int) : (BitVec 32) :=
 LET (en x0) fun y101 =>
 if (!y101) then
  0#32
 else
 LET (io x0) fun y103 =>
 (BitVec.setWidth 32 (y103 - 1#64))
def qw (x0 : aa) (x1 : aj) : Int × Int :=
 if (decide (x0.Op = 1)) then
  LET (ov x0.W) fun y102 =>
  if ((decide (y102.2 = 0)) && ((decide (x0.N < 0)) || (decide (((mw y102.1).toNat : Int) < x0.N)))) then
   (0, 9)
  else
  (y102.1, y102.2)
 else
 if (decide (x0.Op = 2)) then
  LET (md x1.Program ({ Header := x0.N, Field := x0.W } : ak)) fun y109 =>
  if (!y109.2) then
   (0, 8)
  else
  LET (ov y109.1) fun y111 =>
  (y111.1, y111.2)
 else
 if (decide (x0.Op = 3)) then
  if ((decide (x0.N < 0)) || (decide ((x1.Params.length : Int) ≤ x0.N))) then
   (0, 8)
  else
  LET (ov ((ix x1.Params x0.N).Width)) fun y118 =>
  (y118.1, y118.2)
 else
 if ((decide (x0.N < 0)) || (decide ((x1.Program.Headers.length : Int) ≤ x0.N))) then
  (0, 8)
 else
 (1, 0)
def ie (x0 : aa) (x1 : List Int) : Int × Int :=
 if (decide (x0.Op = 5)) then
  ((ix x1 0), 0)
 else
 LET (fun (x13_103 : Bool) =>
  if x13_103 then
   if ((decide (x0.N < 0)) || (decide (31 < x0.N))) then
    (0, 9)
   else
   ((ix x1 0), 0)
  else
  if (decide (x0.Op = 8)) then
   if (decide (x0.N < 0)) then
    (0, 9)
   else
   if (((decide (x0.W < 1)) || (decide (32 < x0.W))) || (decide ((wr ((ix x1 0) - x0.W)) < x0.N))) then
    (0, 10)
   else
   (x0.W, 0)
  else
  if (decide (x0.Op = 14)) then
   LET (ov (wr ((ix x1 0) + (ix x1 1)))) fun y113 =>
   (y113.1, y113.2)
  else
  if (decide (x0.Op = 17)) then
   if ((!decide ((ix x1 0) = 1)) || (!decide ((ix x1 1) = (ix x1 2)))) then
    (0, 10)
   else
   ((ix x1 1), 0)
  else
  if (!decide ((ix x1 0) = (ix x1 1))) then
   (0, 10)
  else
  if ((decide (x0.Op = 15)) || (decide (x0.Op = 16))) then
   (1, 0)
  else
  ((ix x1 0), 0)) fun k103 =>
 if (decide (x0.Op = 6)) then
  k103 (decide (x0.Op = 6))
 else
 k103 (decide (x0.Op = 7))
def kw (x0 : List aa) (x2 : aj) (rec_ : (List aa) → Int → aj → (Int × Int × Int)) (K0 : Int → (List Int) → (Int × Int × Int)) : Nat → Int → Int → (List Int) → (Int × Int × Int)
 | 0, x13_, x14_, zE109 => K0 x13_ zE109
 | m + 1, x13_, x14_, zE109 =>
   LET (rec_ x0 x13_ x2) fun y112 =>
   if (!decide (y112.2.2 = 0)) then
    (0, y112.2.1, y112.2.2)
   else
   kw x0 x2 rec_ K0 m y112.2.1 (x14_ + 1) (zE109 ++ ([y112.1] : List Int))
def mu (rec_ : (List aa) → Int → aj → (Int × Int × Int)) (x0 : List aa) (x1 : Int) (x2 : aj) : Int × Int × Int :=
 if (decide ((x0.length : Int) ≤ x1)) then
  (0, x1, 3)
 else
 LET (fe ((ix x0 x1).Op)) fun y103 =>
 if (decide (y103 < 0)) then
  (0, x1, 11)
 else
 if (decide (y103 = 0)) then
  LET (qw (ix x0 x1) x2) fun y107 =>
  (y107.1, (wr (x1 + 1)), y107.2)
 else
 kw x0 x2 rec_ (fun (x13_116 : Int) (zE109_116 : List Int) =>
  LET (ie (ix x0 x1) zE109_116) fun y118 =>
  (y118.1, x13_116, y118.2)) (Int.toNat (y103 - 0)) (wr (x1 + 1)) 0 ([] : List Int)
def il : Nat → (List aa) → Int → aj → (Int × Int × Int)
 | 0, x0, x1, x2 => (0, 0, 1)
 | n_ + 1, x0, x1, x2 => mu (il n_) x0 x1 x2
def nk (x0 : List aa) (x1 : Int) (x2 : aj) : Int × Int × Int := il ((x0.length - x1.toNat) + 1) x0 x1 x2
def lk (x0 : List aa) (x1 : aj) : Int × Int :=
 if (decide (24 < (x0.length : Int))) then
  (0, 12)
 else
 LET (nk x0 0 x1) fun y102 =>
 if (!decide (y102.2.2 = 0)) then
  (0, y102.2.2)
 else
 if (decide (y102.2.1 < (x0.length : Int))) then
  (0, 4)
 else
 (y102.1, 0)
def pz (x0 : List aa) (x1 : aj) (x2 : Int) : Int :=
 LET (lk x0 x1) fun y101 =>
 if ((decide (y101.2 = 0)) && (!decide (y101.1 = x2))) then
  10
 else
 y101.2
def od (x0 : af) (x1 : av) (x2 : aj) : Int :=
 LET (md x0 x1.Dst) fun y102 =>
 if (decide (x1.Kind = 1)) then
  if (!y102.2) then
   8
  else
  LET (pz x1.Value x2 y102.1) fun y108 =>
  y108
 else
 LET (fun (x43_110 : Bool) =>
  if x43_110 then
   if ((decide (x1.Header < 0)) || (decide ((x0.Headers.length : Int) ≤ x1.Header))) then
    8
   else
   0
  else
  if (decide (x1.Kind = 4)) then
   if ((!y102.2) || (!((decide (0 ≤ x1.Register)) && (decide (x1.Register < (x0.Registers.length : Int)))))) then
    8
   else
   LET (lk x1.Index x2) fun y119 =>
   if ((decide (y119.2 = 0)) && (!decide (y102.1 = ((ix x0.Registers x1.Register).Width)))) then
    10
   else
   y119.2
  else
  if (decide (x1.Kind = 5)) then
   if (!((decide (0 ≤ x1.Register)) && (decide (x1.Register < (x0.Registers.length : Int))))) then
    8
   else
   LET (lk x1.Index x2) fun y127 =>
   if (!decide (y127.2 = 0)) then
    y127.2
   else
   LET (pz x1.Value x2 ((ix x0.Registers x1.Register).Width)) fun y132 =>
   y132
  else
  11) fun k110 =>
 if (decide (x1.Kind = 2)) then
  k110 (decide (x1.Kind = 2))
 else
 k110 (decide (x1.Kind = 3))
def lx (x0 : af) (x1 : Int) (K1 : Unit → (Int × Int)) : Nat → Int → (Int × Int)
 | 0, x7_ => K1 ()
 | m + 1, x7_ =>
   LET (nm x0 x1) fun y126 =>
   LET (od x0 (ix ((ix x0.Actions x1).Body) x7_) y126) fun y128 =>
   if (!decide (y128 = 0)) then
    (x7_, y128)
   else
   lx x0 x1 K1 m (x7_ + 1)
def mi (x0 : af) (x1 : Int) : Int × Int :=
 if ((decide (x1 < 0)) || (decide ((x0.Actions.length : Int) ≤ x1))) then
  ((-1), 8)
 else
 LET (iy ((ix x0.Actions x1).Name)) fun y109 =>
 if (!y109) then
  ((-1), 6)
 else
 if ((decide (4 < (((ix x0.Actions x1).Params).length : Int))) || (decide (12 < (((ix x0.Actions x1).Body).length : Int)))) then
  ((-1), 12)
 else
 LET (pd ((ix x0.Actions x1).Params)) fun y116 =>
 if (!decide (y116 = 0)) then
  LET (pd ((ix x0.Actions x1).Params)) fun y119 =>
  ((-1), y119)
 else
 lx x0 x1 (fun (_ : Unit) =>
  (0, 0)) (Int.toNat ((((ix x0.Actions x1).Body).length : Int) - 0)) 0
def tc (x0 : BitVec 32) (x1 : Int) : Bool :=
 LET (en x1) fun y101 =>
 (y101 && (decide ((BitVec.setWidth 64 x0) < (io x1))))
def jr (x0 : af) (x1 : bm) (K0 : Unit → Int) : Nat → Int → Int
 | 0, x6_ => K0 ()
 | m + 1, x6_ =>
   LET (tc (ix x1.Args x6_) ((ix ((ix x0.Actions x1.Action).Params) x6_).Width)) fun y113 =>
   if (!y113) then
    9
   else
   jr x0 x1 K0 m (x6_ + 1)
def gn (x0 : af) (x1 : bm) : Int :=
 if ((decide (x1.Action < 0)) || (decide ((x0.Actions.length : Int) ≤ x1.Action))) then
  8
 else
 if (!decide ((x1.Args.length : Int) = (((ix x0.Actions x1.Action).Params).length : Int))) then
  2
 else
 jr x0 x1 (fun (_ : Unit) =>
  0) (Int.toNat ((((ix x0.Actions x1.Action).Params).length : Int) - 0)) 0
def gb (x0 : ai) (x1 : ak) : Bool :=
 if (decide (x1.Header = (-1))) then
  ((decide (0 ≤ x1.Field)) && (decide (x1.Field < (x0.Metd.length : Int))))
 else
 ((((decide (0 ≤ x1.Header)) && (decide (x1.Header < (x0.Fields.length : Int)))) && (decide (0 ≤ x1.Field))) && (decide (x1.Field < ((ix x0.Fields x1.Header).length : Int))))
def pf (x0 : ai) (x1 : Int) : Bool :=
 (((decide (0 ≤ x1)) && (decide (x1 < (x0.Valid.length : Int)))) && (ix x0.Valid x1))
def sn (x0 : ai) (x1 : ak) : (BitVec 32) :=
 LET (gb x0 x1) fun y101 =>
 if (!y101) then
  0#32
 else
 if (decide (x1.Header = (-1))) then
  (ix x0.Metd x1.Field)
 else
 LET (pf x0 x1.Header) fun y105 =>
 if (!y105) then
  0#32
 else
 (ix (ix x0.Fields x1.Header) x1.Field)
def ee (x0 : BitVec 64) (x1 : Int) : (BitVec 32) :=
 LET (en x1) fun y101 =>
 if (!y101) then
  0#32
 else
 LET (io x1) fun y103 =>
 (BitVec.setWidth 32 (x0 % y103))
def pm (x0 : Bool) : (BitVec 32) :=
 if x0 then
  1#32
 else
 0#32
def uc (x0 : BitVec 32) (x1 : Int) : (BitVec 32) :=
 LET (mw x1) fun y101 =>
 LET (ee (BitVec.setWidth 64 x0) x1) fun y102 =>
 (y101 - y102)
def mj (x1 : Int) (x2 : Int) (K0 : (BitVec 32) → (BitVec 32)) : Nat → (BitVec 32) → Int → (BitVec 32)
 | 0, x7_, x8_ => K0 x7_
 | m + 1, x7_, x8_ =>
   if ((decide (x8_ < x1)) && (decide (x8_ < 32))) then
    LET (ee (2#64 * (BitVec.setWidth 64 x7_)) x2) fun y106 =>
    mj x1 x2 K0 m y106 (x8_ + 1)
   else
   K0 x7_
def ug (x0 : BitVec 32) (x1 : Int) (x2 : Int) : (BitVec 32) :=
 LET (ee (BitVec.setWidth 64 x0) x2) fun y101 =>
 mj x1 x2 (fun (x7_107 : BitVec 32) =>
  x7_107) (Int.toNat (x1 - 0)) y101 0
def mh (x1 : Int) (K0 : (BitVec 32) → (BitVec 32)) : Nat → (BitVec 32) → Int → (BitVec 32)
 | 0, x7_, x8_ => K0 x7_
 | m + 1, x7_, x8_ =>
   if ((decide (x8_ < x1)) && (decide (x8_ < 32))) then
    mh x1 K0 m (x7_ / 2#32) (x8_ + 1)
   else
   K0 x7_
def ue (x0 : BitVec 32) (x1 : Int) (x2 : Int) : (BitVec 32) :=
 LET (ee (BitVec.setWidth 64 x0) x2) fun y101 =>
 mh x1 (fun (x7_106 : BitVec 32) =>
  x7_106) (Int.toNat (x1 - 0)) y101 0
def sd (x0 : BitVec 32) (x1 : Int) (x2 : Int) : (BitVec 32) :=
 LET (en x2) fun y101 =>
 if (((!y101) || (decide (x1 < 0))) || (decide ((wr (32 - x2)) < x1))) then
  0#32
 else
 LET (io x1) fun y105 =>
 LET (ee ((BitVec.setWidth 64 x0) / y105) x2) fun y106 =>
 y106
def uf (x0 : BitVec 32) (x1 : BitVec 32) (x2 : Int) : (BitVec 32) :=
 LET (ee ((BitVec.setWidth 64 x0) + (BitVec.setWidth 64 x1)) x2) fun y101 =>
 y101
def uj (x0 : BitVec 32) (x1 : BitVec 32) (x2 : Int) : (BitVec 32) :=
 LET (en x2) fun y101 =>
 if (!y101) then
  0#32
 else
 LET (io x2) fun y103 =>
 LET (ee (BitVec.setWidth 64 x0) x2) fun y104 =>
 LET (ee (BitVec.setWidth 64 x1) x2) fun y105 =>
 LET (ee ((y103 + (BitVec.setWidth 64 y104)) - (BitVec.setWidth 64 y105)) x2) fun y106 =>
 y106
def ph (x0 : BitVec 32) (x1 : Int) (x2 : BitVec 32) (x3 : Int) : (BitVec 32) × Bool :=
 LET (en x1) fun y101 =>
 if (((!y101) || (!(en x3))) || (decide (32 < (wr (x1 + x3))))) then
  (0#32, false)
 else
 LET (ee (BitVec.setWidth 64 x0) x1) fun y106 =>
 LET (io x3) fun y107 =>
 LET (ee (BitVec.setWidth 64 x2) x3) fun y108 =>
 (((BitVec.setWidth 32 ((BitVec.setWidth 64 y106) * y107)) + y108), true)
def im (x0 : aa) (x1 : List az) : (BitVec 32) :=
 if (decide (x0.Op = 5)) then
  LET (uc ((ix x1 0).V) ((ix x1 0).W)) fun y104 =>
  y104
 else
 if (decide (x0.Op = 6)) then
  LET (ug ((ix x1 0).V) x0.N ((ix x1 0).W)) fun y107 =>
  y107
 else
 if (decide (x0.Op = 7)) then
  LET (ue ((ix x1 0).V) x0.N ((ix x1 0).W)) fun y110 =>
  y110
 else
 if (decide (x0.Op = 8)) then
  LET (sd ((ix x1 0).V) x0.N x0.W) fun y113 =>
  y113
 else
 if (decide (x0.Op = 9)) then
  LET (uf ((ix x1 0).V) ((ix x1 1).V) ((ix x1 0).W)) fun y117 =>
  y117
 else
 if (decide (x0.Op = 10)) then
  LET (uj ((ix x1 0).V) ((ix x1 1).V) ((ix x1 0).W)) fun y121 =>
  y121
 else
 if (decide (x0.Op = 11)) then
  (((ix x1 0).V) &&& ((ix x1 1).V))
 else
 if (decide (x0.Op = 12)) then
  (((ix x1 0).V) ||| ((ix x1 1).V))
 else
 if (decide (x0.Op = 13)) then
  (((ix x1 0).V) ^^^ ((ix x1 1).V))
 else
 if (decide (x0.Op = 14)) then
  LET (ph ((ix x1 0).V) ((ix x1 0).W) ((ix x1 1).V) ((ix x1 1).W)) fun y135 =>
  y135.1
 else
 if (decide (x0.Op = 15)) then
  LET (pm (decide (((ix x1 0).V) = ((ix x1 1).V)))) fun y139 =>
  y139
 else
 if (decide (x0.Op = 16)) then
  LET (pm (decide (((ix x1 0).V) < ((ix x1 1).V)))) fun y143 =>
  y143
 else
 if (decide (((ix x1 0).V) = 1#32)) then
  (ix x1 1).V
 else
 (ix x1 2).V
def jc (x0 : List aa) (x1 : Int) (x2 : aj) (x3 : ai) (x4 : List (BitVec 32)) (rec_ : (List aa) → Int → aj → ai → (List (BitVec 32)) → az) (K1 : Int → (List az) → az) : Nat → Int → Int → (List az) → az
 | 0, x17_, x18_, zE128 => K1 x17_ zE128
 | m + 1, x17_, x18_, zE128 =>
   LET (fe ((ix x0 x1).Op)) fun y132 =>
   if (decide (x18_ < y132)) then
    LET (rec_ x0 x17_ x2 x3 x4) fun y134 =>
    jc x0 x1 x2 x3 x4 rec_ K1 m y134.To (wr (x18_ + 1)) (zE128 ++ ([y134] : List az))
   else
   K1 x17_ zE128
def jv (rec_ : (List aa) → Int → aj → ai → (List (BitVec 32)) → az) (x0 : List aa) (x1 : Int) (x2 : aj) (x3 : ai) (x4 : List (BitVec 32)) : az :=
 LET (nk x0 x1 x2) fun y107 =>
 if (decide (((ix x0 x1).Op) = 1)) then
  ({ V := (BitVec.ofInt 32 ((ix x0 x1).N)), W := y107.1, To := (wr (x1 + 1)) } : az)
 else
 if (decide (((ix x0 x1).Op) = 2)) then
  LET (sn x3 ({ Header := (ix x0 x1).N, Field := (ix x0 x1).W } : ak)) fun y111 =>
  LET (ee (BitVec.setWidth 64 y111) y107.1) fun y112 =>
  ({ V := y112, W := y107.1, To := (wr (x1 + 1)) } : az)
 else
 if (decide (((ix x0 x1).Op) = 3)) then
  LET (fun (x15_117 : BitVec 32) =>
   ({ V := x15_117, W := y107.1, To := (wr (x1 + 1)) } : az)) fun k117 =>
  if (decide (((ix x0 x1).N) < (x4.length : Int))) then
   LET (ee (BitVec.setWidth 64 (ix x4 ((ix x0 x1).N))) y107.1) fun y120 =>
   k117 y120
  else
  k117 0#32
 else
 if (decide (((ix x0 x1).Op) = 4)) then
  LET (pm ((decide (((ix x0 x1).N) < (x3.Valid.length : Int))) && (ix x3.Valid ((ix x0 x1).N)))) fun y125 =>
  ({ V := y125, W := y107.1, To := (wr (x1 + 1)) } : az)
 else
 jc x0 x1 x2 x3 x4 rec_ (fun (x17_141 : Int) (zE128_141 : List az) =>
  LET (im (ix x0 x1) zE128_141) fun y142 =>
  ({ V := y142, W := y107.1, To := x17_141 } : az)) (Int.toNat ((fe ((ix x0 x1).Op) - 0))) (wr (x1 + 1)) 0 ([] : List az)
def fi : Nat → (List aa) → Int → aj → ai → (List (BitVec 32)) → az
 | 0, x0, x1, x2, x3, x4 => { V := 0#32, W := 0, To := (cn x2 x0 x1).2.1 }
 | n_ + 1, x0, x1, x2, x3, x4 => jv (fi n_) x0 x1 x2 x3 x4
def xy (x0 : List aa) (x1 : Int) (x2 : aj) (x3 : ai) (x4 : List (BitVec 32)) : az := fi ((x0.length - x1.toNat) + 1) x0 x1 x2 x3 x4
def rj (x0 : List aa) (x1 : aj) (x2 : ai) (x3 : List (BitVec 32)) : (BitVec 32) :=
 LET (lk x0 x1) fun y101 =>
 if (!decide (y101.2 = 0)) then
  0#32
 else
 LET (xy x0 0 x1 x2 x3) fun y103 =>
 y103.V
def fa (x0 : af) (x1 : ak) : Int :=
 LET (fun (x5_108 : List aw) =>
  if (((((decide (x1.Header < (-1))) || (decide (x1.Field < 0))) || (decide ((x5_108.length : Int) ≤ x1.Field))) || (decide (((ix x5_108 x1.Field).Width) < 1))) || (decide (32 < ((ix x5_108 x1.Field).Width)))) then
   0
  else
  (ix x5_108 x1.Field).Width) fun k108 =>
 if (decide (0 ≤ x1.Header)) then
  if (decide ((x0.Headers.length : Int) ≤ x1.Header)) then
   0
  else
  k108 ((ix x0.Headers x1.Header).Fields)
 else
 k108 x0.Metadata
def rv (x0 : ai) : ai := x0
def kf (K0 : (BitVec 64) → (BitVec 32)) : Nat → (BitVec 64) → Int → (BitVec 32)
 | 0, x5_, x6_ => K0 x5_
 | m + 1, x5_, x6_ =>
   kf K0 m (2#64 * x5_) (x6_ + 1)
def gz (x0 : BitVec 32) (x1 : Int) : (BitVec 32) :=
 kf (fun (x5_103 : BitVec 64) =>
  (BitVec.setWidth 32 ((BitVec.setWidth 64 x0) % x5_103))) (Int.toNat (x1 - 0)) 1#64 0
def nh (x0 : af) (x1 : ai) (x2 : ak) (x3 : BitVec 32) : ai :=
 if (decide (fa x0 x2 = 0) || !gb x1 x2) || (!decide (x2.Header = -1) && !pf x1 x2.Header) then x1 else putF x1 x2 (gz x3 (fa x0 x2))
def lz (x0 : ai) (x1 : Int) (x2 : Bool) : ai := swE x0 x1 x2
def lg (x0 : af) (x1 : ai) (x2 : Int) : ai :=
 if ((((decide (x2 < 0)) || (decide ((x0.Headers.length : Int) ≤ x2))) || (decide ((x1.Valid.length : Int) ≤ x2))) || (ix x1.Valid x2)) then
  LET (rv x1) fun y110 =>
  y110
 else
 LET (lz x1 x2 true) fun y113 =>
 y113
def js (x0 : af) (x1 : ai) (x2 : Int) : ai :=
 if (((decide (x2 < 0)) || (decide ((x0.Headers.length : Int) ≤ x2))) || (decide ((x1.Valid.length : Int) ≤ x2))) then
  LET (rv x1) fun y108 =>
  y108
 else
 LET (lz x1 x2 false) fun y111 =>
 y111
def ma (x0 : af) (x1 : List (List (BitVec 32))) (x2 : Int) (x3 : BitVec 32) : Bool :=
 (((((decide (0 ≤ x2)) && (decide (x2 < (x0.Registers.length : Int)))) && (decide (x2 < (x1.length : Int)))) && (decide ((x3.toNat : Int) < ((ix x0.Registers x2).Size)))) && (decide ((x3.toNat : Int) < ((ix x1 x2).length : Int))))
def sv (x0 : af) (x1 : List (List (BitVec 32))) (x2 : Int) (x3 : BitVec 32) : (BitVec 32) :=
 LET (ma x0 x1 x2 x3) fun y101 =>
 if (!y101) then
  0#32
 else
 (ix (ix x1 x2) (x3.toNat : Int))
def lp (x0 : cg) : Int :=
 if ((decide (x0.Width < 1)) || (decide (32 < x0.Width))) then
  0
 else
 x0.Width
def lm (x0 : af) (x1 : List (List (BitVec 32))) (x2 : Int) (x3 x4 : BitVec 32) : List (List (BitVec 32)) :=
 if !ma x0 x1 x2 x3 || decide (lp (ix x0.Registers x2) = 0) then x1 else x1.set x2.toNat ((ix x1 x2).set x3.toNat (gz x4 (ix x0.Registers x2).Width))
def gq (x0 : af) (x1 : bm) (y110 : aj) (K0 : (List (List (BitVec 32))) → ai → (ai × (List (List (BitVec 32))))) : Nat → (List (List (BitVec 32))) → Int → ai → (ai × (List (List (BitVec 32))))
 | 0, x3_, x14_, zE102 => K0 x3_ zE102
 | m + 1, x3_, x14_, zE102 =>
   LET (rj ((ix ((ix x0.Actions x1.Action).Body) x14_).Index) y110 zE102 x1.Args) fun y127 =>
   LET (rj ((ix ((ix x0.Actions x1.Action).Body) x14_).Value) y110 zE102 x1.Args) fun y130 =>
   if (decide (((ix ((ix x0.Actions x1.Action).Body) x14_).Kind) = 1)) then
    LET (nh x0 zE102 ((ix ((ix x0.Actions x1.Action).Body) x14_).Dst) y130) fun y133 =>
    gq x0 x1 y110 K0 m x3_ (x14_ + 1) y133
   else
   if (decide (((ix ((ix x0.Actions x1.Action).Body) x14_).Kind) = 2)) then
    LET (lg x0 zE102 ((ix ((ix x0.Actions x1.Action).Body) x14_).Header)) fun y137 =>
    gq x0 x1 y110 K0 m x3_ (x14_ + 1) y137
   else
   if (decide (((ix ((ix x0.Actions x1.Action).Body) x14_).Kind) = 3)) then
    LET (js x0 zE102 ((ix ((ix x0.Actions x1.Action).Body) x14_).Header)) fun y141 =>
    gq x0 x1 y110 K0 m x3_ (x14_ + 1) y141
   else
   if (decide (((ix ((ix x0.Actions x1.Action).Body) x14_).Kind) = 4)) then
    LET (sv x0 x3_ ((ix ((ix x0.Actions x1.Action).Body) x14_).Register) y127) fun y146 =>
    LET (nh x0 zE102 ((ix ((ix x0.Actions x1.Action).Body) x14_).Dst) y146) fun y147 =>
    gq x0 x1 y110 K0 m x3_ (x14_ + 1) y147
   else
   LET (lm x0 x3_ ((ix ((ix x0.Actions x1.Action).Body) x14_).Register) y127 y130) fun y150 =>
   gq x0 x1 y110 K0 m y150 (x14_ + 1) zE102
def mq (x0 : af) (x1 : bm) (x2 : ai) (x3 : List (List (BitVec 32))) : ai × (List (List (BitVec 32))) :=
 LET (mi x0 x1.Action) fun y105 =>
 if ((!decide (y105.2 = 0)) || (!decide ((gn x0 x1) = 0))) then
  (x2, x3)
 else
 LET (nm x0 x1.Action) fun y110 =>
 gq x0 x1 y110 (fun (x3_152 : List (List (BitVec 32))) (zE102_152 : ai) =>
  (zE102_152, x3_152)) (Int.toNat ((((ix x0.Actions x1.Action).Body).length : Int) - 0)) x3 0 x2
def jb (x0 : List (BitVec 32)) (x1 : List (BitVec 32)) (K0 : Unit → Bool) : Nat → Int → Bool
 | 0, x5_ => K0 ()
 | m + 1, x5_ =>
   if (!decide ((ix x0 x5_) = (ix x1 x5_))) then
    false
   else
   jb x0 x1 K0 m (x5_ + 1)
def ka (x0 : List (BitVec 32)) (x1 : List (BitVec 32)) : Bool :=
 if (!decide ((x0.length : Int) = (x1.length : Int))) then
  false
 else
 jb x0 x1 (fun (_ : Unit) =>
  true) (Int.toNat ((x0.length : Int) - 0)) 0
def me (x0 : ai) (x1 : ai) (K0 : Unit → Bool) : Nat → Int → Bool
 | 0, x5_ => K0 ()
 | m + 1, x5_ =>
   if (!decide ((ix x0.Valid x5_) = (ix x1.Valid x5_))) then
    false
   else
   me x0 x1 K0 m (x5_ + 1)
def lu (x0 : ai) (x1 : ai) (K2 : Unit → Bool) : Nat → Int → Bool
 | 0, x6_ => K2 ()
 | m + 1, x6_ =>
   LET (ka (ix x0.Fields x6_) (ix x1.Fields x6_)) fun y126 =>
   if (!y126) then
    false
   else
   lu x0 x1 K2 m (x6_ + 1)
def sb (x0 : ai) (x1 : ai) : Bool :=
 if (((!decide ((x0.Valid.length : Int) = (x1.Valid.length : Int))) || (!decide ((x0.Fields.length : Int) = (x1.Fields.length : Int)))) || (!decide (x0.Payload = x1.Payload))) then
  false
 else
 me x0 x1 (fun (_ : Unit) =>
  lu x0 x1 (fun (_ : Unit) =>
   LET (ka x0.Metd x1.Metd) fun y131 =>
   y131) (Int.toNat ((x0.Fields.length : Int) - 0)) 0) (Int.toNat ((x0.Valid.length : Int) - 0)) 0
def mb (x0 : List (List (BitVec 32))) (x1 : List (List (BitVec 32))) (K0 : Unit → Bool) : Nat → Int → Bool
 | 0, x5_ => K0 ()
 | m + 1, x5_ =>
   LET (ka (ix x0 x5_) (ix x1 x5_)) fun y106 =>
   if (!y106) then
    false
   else
   mb x0 x1 K0 m (x5_ + 1)
def nn (x0 : List (List (BitVec 32))) (x1 : List (List (BitVec 32))) : Bool :=
 if (!decide ((x0.length : Int) = (x1.length : Int))) then
  false
 else
 mb x0 x1 (fun (_ : Unit) =>
  true) (Int.toNat ((x0.length : Int) - 0)) 0
def ku (x0 : dm) : Bool :=
 LET (vx x0.P) fun y102 =>
 if ((!y102) || (decide (40 < (x0.Call.Args.length : Int)))) then
  LET (tn) fun y107 =>
  y107
 else
 LET (mf x0.P x0.Call x0.E x0.Regs) fun y112 =>
 LET (mq x0.P x0.Call x0.E x0.Regs) fun y122 =>
 LET (sb y112.1 y122.1) fun y128 =>
 ((y128 && (nn y112.2 y122.2)) && (tn))
end Go.Proofs.YtmonnlkagniolaaGreat
