import Derived.Test.YtmonnlkagniolaaGreatKTy
import Derived.Test.YtmonnlkagniolaaGreatPbC
import Derived.Test.YtmonnlkagniolaaGreatPbV
import Derived.Test.YtmonnlkagniolaaGreatKEp
set_option linter.unusedVariables false
set_option linter.unusedSimpArgs false
set_option maxRecDepth 100000
namespace Go.Proofs.YtmonnlkagniolaaGreat
open Go Go.Pb Go.RowKit
def mm (x0 : ab) (x3_ : Int) (K2 : Unit → Bool) : Nat → Int → Bool
 | 0, x4_ => K2 ()
 | m + 1, x4_ =>
   if ((decide (60 < (((ix ((ix x0.Actions x3_).Body) x4_).Index).length : Int))) || (decide (60 < (((ix ((ix x0.Actions x3_).Body) x4_).Value).length : Int)))) then
    false
   else
   mm x0 x3_ K2 m (x4_ + 1)
def ml (x0 : ab) (K0 : Unit → Bool) : Nat → Int → Bool
 | 0, x3_ => K0 ()
 | m + 1, x3_ =>
   if ((decide (20 < (((ix x0.Actions x3_).Params).length : Int))) || (decide (30 < (((ix x0.Actions x3_).Body).length : Int)))) then
    false
   else
   mm x0 x3_ (fun (_ : Unit) =>
    ml x0 K0 m (x3_ + 1)) (Int.toNat ((((ix x0.Actions x3_).Body).length : Int) - 0)) 0
def mj (x0 : ab) (K4 : Unit → Bool) : Nat → Int → Bool
 | 0, x5_ => K4 ()
 | m + 1, x5_ =>
   if (decide (40 < (((ix x0.Headers x5_).Fields).length : Int))) then
    false
   else
   mj x0 K4 m (x5_ + 1)
def oh (x0 : ab) (K6 : Unit → Bool) : Nat → Int → Bool
 | 0, x6_ => K6 ()
 | m + 1, x6_ =>
   if (decide (200 < ((ix x0.Registers x6_).Size))) then
    false
   else
   oh x0 K6 m (x6_ + 1)
def kg (x0 : ab) : Bool :=
 if ((((decide (20 < (x0.Headers.length : Int))) || (decide (30 < (x0.Metadata.length : Int)))) || (decide (20 < (x0.Registers.length : Int)))) || (decide (40 < (x0.Actions.length : Int)))) then
  false
 else
 ml x0 (fun (_ : Unit) =>
  mj x0 (fun (_ : Unit) =>
   oh x0 (fun (_ : Unit) =>
    true) (Int.toNat ((x0.Registers.length : Int) - 0)) 0) (Int.toNat ((x0.Headers.length : Int) - 0)) 0) (Int.toNat ((x0.Actions.length : Int) - 0)) 0
def li (x0 : ab) (x1 : au) (K0 : Unit → Bool) : Nat → Int → Bool
 | 0, x5_ => K0 ()
 | m + 1, x5_ =>
   if (!decide (((ix x1.Fields x5_).length : Int) = (((ix x0.Headers x5_).Fields).length : Int))) then
    false
   else
   li x0 x1 K0 m (x5_ + 1)
def jq (x0 : ab) (x1 : au) : Bool :=
 if (((!decide ((x1.Valid.length : Int) = (x0.Headers.length : Int))) || (!decide ((x1.Fields.length : Int) = (x0.Headers.length : Int)))) || (!decide ((x1.Metd.length : Int) = (x0.Metadata.length : Int)))) then
  false
 else
 li x0 x1 (fun (_ : Unit) =>
  true) (Int.toNat ((x0.Headers.length : Int) - 0)) 0
def jf (x0 : ab) (x1 : aa) : Int :=
 LET (fun (x5_108 : List ax) =>
  if (((((decide (x1.Header < (-1))) || (decide (x1.Field < 0))) || (decide ((x5_108.length : Int) ≤ x1.Field))) || (decide (((ix x5_108 x1.Field).Width) < 1))) || (decide (32 < ((ix x5_108 x1.Field).Width)))) then
   0
  else
  (ix x5_108 x1.Field).Width) fun k108 =>
 if (decide (0 ≤ x1.Header)) then
  if (decide ((x0.Headers.length : Int) ≤ x1.Header)) then
   0
  else
  k108 ((ix x0.Headers x1.Header).Fields)
 else
 k108 x0.Metadata
def mb (K0 : (BitVec 64) → Bool) : Nat → (BitVec 64) → Int → Bool
 | 0, x5_, x6_ => K0 x5_
 | m + 1, x5_, x6_ =>
   mb K0 m (2#64 * x5_) (x6_ + 1)
def pj (x0 : BitVec 32) (x1 : Int) : Bool :=
 mb (fun (x5_103 : BitVec 64) =>
  (decide ((BitVec.setWidth 64 x0) < x5_103))) (Int.toNat (x1 - 0)) 1#64 0
def lm (x0 : ab) (x1 : au) (x5_ : Int) (K2 : Unit → Int) : Nat → Int → Int
 | 0, x6_ => K2 ()
 | m + 1, x6_ =>
   LET (jf x0 ({ Header := x5_, Field := x6_ } : aa)) fun y115 =>
   LET (pj (ix (ix x1.Fields x5_) x6_) y115) fun y116 =>
   if (!y116) then
    9
   else
   lm x0 x1 x5_ K2 m (x6_ + 1)
def lp (x0 : ab) (x1 : au) (K0 : Unit → Int) : Nat → Int → Int
 | 0, x5_ => K0 ()
 | m + 1, x5_ =>
   lm x0 x1 x5_ (fun (_ : Unit) =>
    lp x0 x1 K0 m (x5_ + 1)) (Int.toNat (((ix x1.Fields x5_).length : Int) - 0)) 0
def ll (x0 : ab) (x1 : au) (K4 : Unit → Int) : Nat → Int → Int
 | 0, x7_ => K4 ()
 | m + 1, x7_ =>
   LET (jf x0 ({ Header := (-1), Field := x7_ } : aa)) fun y125 =>
   LET (pj (ix x1.Metd x7_) y125) fun y126 =>
   if (!y126) then
    9
   else
   ll x0 x1 K4 m (x7_ + 1)
def lf (x1 : au) (x8_ : Int) (K8 : Unit → Int) : Nat → Int → Int
 | 0, x9_ => K8 ()
 | m + 1, x9_ =>
   if ((!(ix x1.Valid x8_)) && (!decide ((ix (ix x1.Fields x8_) x9_) = 0#32))) then
    5
   else
   lf x1 x8_ K8 m (x9_ + 1)
def lb (x1 : au) (K6 : Unit → Int) : Nat → Int → Int
 | 0, x8_ => K6 ()
 | m + 1, x8_ =>
   lf x1 x8_ (fun (_ : Unit) =>
    lb x1 K6 m (x8_ + 1)) (Int.toNat (((ix x1.Fields x8_).length : Int) - 0)) 0
def qt (x0 : ab) (x1 : au) : Int :=
 LET (jq x0 x1) fun y101 =>
 if (!y101) then
  2
 else
 lp x0 x1 (fun (_ : Unit) =>
  ll x0 x1 (fun (_ : Unit) =>
   lb x1 (fun (_ : Unit) =>
    0) (Int.toNat ((x1.Fields.length : Int) - 0)) 0) (Int.toNat ((x1.Metd.length : Int) - 0)) 0) (Int.toNat ((x1.Fields.length : Int) - 0)) 0
def ln (x0 : cm) : Int :=
 if ((decide (x0.Width < 1)) || (decide (32 < x0.Width))) then
  0
 else
 x0.Width
def gu (x0 : ab) (x1 : List (List (BitVec 32))) (K0 : Unit → Int) : Nat → Int → Int
 | 0, x5_ => K0 ()
 | m + 1, x5_ =>
   if (!decide (((ix x1 x5_).length : Int) = ((ix x0.Registers x5_).Size))) then
    2
   else
   gu x0 x1 K0 m (x5_ + 1)
def gk (x0 : ab) (x1 : List (List (BitVec 32))) (x6_ : Int) (K4 : Unit → Int) : Nat → Int → Int
 | 0, x7_ => K4 ()
 | m + 1, x7_ =>
   LET (ln (ix x0.Registers x6_)) fun y119 =>
   LET (pj (ix (ix x1 x6_) x7_) y119) fun y120 =>
   if (!y120) then
    9
   else
   gk x0 x1 x6_ K4 m (x7_ + 1)
def gq (x0 : ab) (x1 : List (List (BitVec 32))) (K2 : Unit → Int) : Nat → Int → Int
 | 0, x6_ => K2 ()
 | m + 1, x6_ =>
   gk x0 x1 x6_ (fun (_ : Unit) =>
    gq x0 x1 K2 m (x6_ + 1)) (Int.toNat (((ix x1 x6_).length : Int) - 0)) 0
def kb (x0 : ab) (x1 : List (List (BitVec 32))) : Int :=
 if (!decide ((x1.length : Int) = (x0.Registers.length : Int))) then
  2
 else
 gu x0 x1 (fun (_ : Unit) =>
  gq x0 x1 (fun (_ : Unit) =>
   0) (Int.toNat ((x1.length : Int) - 0)) 0) (Int.toNat ((x1.length : Int) - 0)) 0
def fc (x0 : bd) : Bool :=
 LET (qt x0.P x0.E) fun y103 =>
 ((decide (y103 = 0)) && (decide ((kb x0.P x0.Regs) = 0)))
def lc : Bool := true
def jb (x0 : List (List Bool)) (K0 : (List Bool) → (List Bool)) : Nat → Int → (List Bool) → (List Bool)
 | 0, x8_, zE102 => K0 zE102
 | m + 1, x8_, zE102 =>
   jb x0 K0 m (x8_ + 1) (zE102 ++ (ix x0 x8_))
def mw (x0 : List (List Bool)) : (List Bool) :=
 jb x0 (fun (zE102_107 : List Bool) =>
  zE102_107) (Int.toNat ((x0.length : Int) - 0)) 0 ([] : List Bool)
def ip (x0 : List (List (BitVec 32))) (K0 : (List (BitVec 32)) → (List (BitVec 32))) : Nat → Int → (List (BitVec 32)) → (List (BitVec 32))
 | 0, x8_, zE102 => K0 zE102
 | m + 1, x8_, zE102 =>
   ip x0 K0 m (x8_ + 1) (zE102 ++ (ix x0 x8_))
def lr (x0 : List (List (BitVec 32))) : (List (BitVec 32)) :=
 ip x0 (fun (zE102_107 : List (BitVec 32)) =>
  zE102_107) (Int.toNat ((x0.length : Int) - 0)) 0 ([] : List (BitVec 32))
def jd (x0 : List (List UInt8)) (K0 : (List UInt8) → (List UInt8)) : Nat → Int → (List UInt8) → (List UInt8)
 | 0, x8_, zE102 => K0 zE102
 | m + 1, x8_, zE102 =>
   jd x0 K0 m (x8_ + 1) (zE102 ++ (ix x0 x8_))
def mv (x0 : List (List UInt8)) : (List UInt8) :=
 jd x0 (fun (zE102_107 : List UInt8) =>
  zE102_107) (Int.toNat ((x0.length : Int) - 0)) 0 ([] : List UInt8)
def vx (x0 : au) : au := x0
def od (x0 : List cj) (x1 : Int) : cj :=
 if ((decide (x1 < 0)) || (decide ((x0.length : Int) ≤ x1))) then
  ({ Name := ([] : List UInt8), Fields := ([] : List ax) } : cj)
 else
 (ix x0 x1)
def uf (x0 : ab) (x1 : Int) : (List ax) :=
 if (decide (x1 = (-1))) then
  x0.Metadata
 else
 LET (od x0.Headers x1) fun y104 =>
 y104.Fields
def ii (x0 : List ax) (x1 : Int) : ax :=
 if ((decide (x1 < 0)) || (decide ((x0.length : Int) ≤ x1))) then
  ({ Name := ([] : List UInt8), Width := 0 } : ax)
 else
 (ix x0 x1)
def gh (x0 : List Int) (K0 : Unit → Bool) : Nat → Int → Bool
 | 0, x7_ => K0 ()
 | m + 1, x7_ =>
   if ((decide ((ix x0 x7_) < 1)) || (decide (32 < (ix x0 x7_)))) then
    false
   else
   gh x0 K0 m (x7_ + 1)
def iw (x0 : List Int) : Bool :=
 gh x0 (fun (_ : Unit) =>
  true) (Int.toNat ((x0.length : Int) - 0)) 0
def ck (x0 : Int) : (BitVec 32) :=
 LET (iw ([x0] : List Int)) fun y102 =>
 if (!y102) then
  0#32
 else
 (4294967295#32 >>> (wr (32 - x0)).toNat)
def ks (x0 : ab) (x1 : aa) : Int :=
 LET (uf x0 x1.Header) fun y101 =>
 LET (ii y101 x1.Field) fun y103 =>
 LET (ck y103.Width) fun y105 =>
 if (decide (y105 = 0#32)) then
  0
 else
 y103.Width
def ik (x0 : List (BitVec 32)) (x1 : Int) : Bool :=
 ((decide (0 ≤ x1)) && (decide (x1 < (x0.length : Int))))
def ja (x0 : List (List (BitVec 32))) (x1 : Int) : (List (BitVec 32)) :=
 if ((decide (x1 < 0)) || (decide ((x0.length : Int) ≤ x1))) then
  ([] : List (BitVec 32))
 else
 (ix x0 x1)
def ot (x0 : List Bool) (x1 : Int) : Bool :=
 if ((decide (x1 < 0)) || (decide ((x0.length : Int) ≤ x1))) then
  false
 else
 (ix x0 x1)
def gi (x0 : au) (x1 : aa) : (List (BitVec 32)) × Bool :=
 if (decide (x1 = ({ Header := (-1), Field := x1.Field } : aa))) then
  LET (ik x0.Metd x1.Field) fun y104 =>
  (x0.Metd, y104)
 else
 LET (ja x0.Fields x1.Header) fun y106 =>
 LET (ot x0.Valid x1.Header) fun y109 =>
 (y106, (y109 && (ik y106 x1.Field)))
def mr (x0 : ab) (x1 : au) (x2 : aa) (x3 : BitVec 32) : au :=
 if (gi x1 x2).2 && decide (0 < ks x0 x2) then putF x1 x2 (x3 &&& ck (ks x0 x2)) else x1
def pb (x0 : List (List (BitVec 32))) : List (List (BitVec 32)) := x0
def oo (x0 : UInt8) : Bool :=
 (((decide ((97 : UInt8) ≤ x0)) && (decide (x0 ≤ (122 : UInt8)))) || ((decide ((65 : UInt8) ≤ x0)) && (decide (x0 ≤ (90 : UInt8)))))
def nt (x0 : List UInt8) (x1 : UInt8 → Bool) (K0 : Int → Int) : Nat → Int → Int
 | 0, x5_ => K0 x5_
 | m + 1, x5_ =>
   if ((decide (x5_ < (x0.length : Int))) && (x1 (ix x0 x5_))) then
    nt x0 x1 K0 m (x5_ + 1)
   else
   K0 x5_
def tv (x0 : List UInt8) (x1 : UInt8 → Bool) : Int :=
 nt x0 x1 (fun (x5_107 : Int) =>
  x5_107) (Int.toNat ((x0.length : Int) - 0)) 0
def oa (x0 : UInt8) : Bool :=
 ((decide ((48 : UInt8) ≤ x0)) && (decide (x0 ≤ (57 : UInt8))))
def mn (x0 : UInt8) : Bool :=
 LET (oo x0) fun y101 =>
 ((y101 || (oa x0)) || (decide (x0 = (95 : UInt8))))
def mh (x0 : List UInt8) : Bool :=
 if (((decide ((x0.length : Int) = 0)) || (decide (16 < (x0.length : Int)))) || (!(oo (ix x0 0)))) then
  false
 else
 LET (tv x0 mn) fun y105 =>
 (decide (y105 = (x0.length : Int)))
def mu (x0 : ax) (c0 : ax) : Bool :=
 (decide (x0.Name = c0.Name))
def fh (x0 : List ax) (x1 : ax → Bool) (K0 : Unit → Int) : Nat → Int → Int
 | 0, x8_ => K0 ()
 | m + 1, x8_ =>
   if (x1 (ix x0 x8_)) then
    x8_
   else
   fh x0 x1 K0 m (x8_ + 1)
def iz (x0 : List ax) (x1 : ax → Bool) : Int :=
 fh x0 x1 (fun (_ : Unit) =>
  (-1)) (Int.toNat ((x0.length : Int) - 0)) 0
def iq (x0 : List ax) (x1 : ax → Bool) : Bool :=
 LET (iz x0 x1) fun y101 =>
 (decide (0 ≤ y101))
def km (x0 : bp) (K1 : Unit → Int) : Nat → Int → Int
 | 0, x24_ => K1 ()
 | m + 1, x24_ =>
   LET (mh ((ix x0.Params x24_).Name)) fun y114 =>
   if (!y114) then
    6
   else
   if ((decide (((ix x0.Params x24_).Width) < 1)) || (decide (32 < ((ix x0.Params x24_).Width)))) then
    10
   else
   LET (iq (sub x0.Params 0 x24_) (fun a_ => mu a_ (ix x0.Params x24_))) fun y122 =>
   if y122 then
    7
   else
   km x0 K1 m (x24_ + 1)
def ji (x0 : bp) : Int :=
 LET (mh x0.Name) fun y101 =>
 if (!y101) then
  6
 else
 if ((decide (4 < (x0.Params.length : Int))) || (decide (12 < (x0.Body.length : Int)))) then
  12
 else
 km x0 (fun (_ : Unit) =>
  0) (Int.toNat ((x0.Params.length : Int) - 0)) 0
def rc (x0 : ab) (x1 : aa) : Int × Bool :=
 LET (fun (x6_109 : List ax) =>
  if ((decide (x1.Field < 0)) || (decide ((x6_109.length : Int) ≤ x1.Field))) then
   (0, false)
  else
  ((ix x6_109 x1.Field).Width, true)) fun k109 =>
 if (!decide (x1.Header = (-1))) then
  if ((decide (x1.Header < 0)) || (decide ((x0.Headers.length : Int) ≤ x1.Header))) then
   (0, false)
  else
  k109 ((ix x0.Headers x1.Header).Fields)
 else
 k109 x0.Metadata
def dv (x0 : Int) : Int :=
 LET (fun (x4_104 : Bool) =>
  if x4_104 then
   0
  else
  LET (fun (x9_109 : Bool) =>
   if x9_109 then
    1
   else
   LET (fun (x14_118 : Bool) =>
    if x14_118 then
     2
    else
    if (decide (x0 = 17)) then
     3
    else
    (-1)) fun k118 =>
   if (decide (x0 = 9)) then
    k118 (decide (x0 = 9))
   else
   if (decide (x0 = 10)) then
    k118 (decide (x0 = 10))
   else
   if (decide (x0 = 11)) then
    k118 (decide (x0 = 11))
   else
   if (decide (x0 = 12)) then
    k118 (decide (x0 = 12))
   else
   if (decide (x0 = 13)) then
    k118 (decide (x0 = 13))
   else
   if (decide (x0 = 14)) then
    k118 (decide (x0 = 14))
   else
   if (decide (x0 = 15)) then
    k118 (decide (x0 = 15))
   else
   k118 (decide (x0 = 16))) fun k109 =>
  if (decide (x0 = 5)) then
   k109 (decide (x0 = 5))
  else
  if (decide (x0 = 6)) then
   k109 (decide (x0 = 6))
  else
  if (decide (x0 = 7)) then
   k109 (decide (x0 = 7))
  else
  k109 (decide (x0 = 8))) fun k104 =>
 if (decide (x0 = 1)) then
  k104 (decide (x0 = 1))
 else
 if (decide (x0 = 2)) then
  k104 (decide (x0 = 2))
 else
 if (decide (x0 = 3)) then
  k104 (decide (x0 = 3))
 else
 k104 (decide (x0 = 4))
def pn (x0 : Int) : Int × Int :=
 if ((decide (x0 < 1)) || (decide (32 < x0))) then
  (0, 10)
 else
 (x0, 0)
def mg (x0 : bc) (x1 : Int) (x2 : Int) : ax × Bool :=
 LET (fun (x8_115 : List ax) =>
  if ((decide (x2 < 0)) || (decide ((x8_115.length : Int) ≤ x2))) then
   (({ Name := ([] : List UInt8), Width := 0 } : ax), false)
  else
  ((ix x8_115 x2), true)) fun k115 =>
 if (!decide (x1 = (-1))) then
  if ((decide (x1 < 0)) || (decide ((x0.Program.Headers.length : Int) ≤ x1))) then
   (({ Name := ([] : List UInt8), Width := 0 } : ax), false)
  else
  k115 ((ix x0.Program.Headers x1).Fields)
 else
 k115 x0.Program.Metadata
def fd (x0 : bc) (x1 : af) : Int × Int :=
 if (decide (x1.Op = 1)) then
  LET (pn x1.W) fun y102 =>
  if ((decide (y102.2 = 0)) && ((decide (x1.N < 0)) || (decide (((ck y102.1).toNat : Int) < x1.N)))) then
   (0, 9)
  else
  (y102.1, y102.2)
 else
 if (decide (x1.Op = 2)) then
  LET (mg x0 x1.N x1.W) fun y108 =>
  if (!y108.2) then
   (0, 8)
  else
  LET (pn y108.1.Width) fun y114 =>
  (y114.1, y114.2)
 else
 if (decide (x1.Op = 3)) then
  if ((decide (x1.N < 0)) || (decide ((x0.Params.length : Int) ≤ x1.N))) then
   (0, 8)
  else
  LET (pn ((ix x0.Params x1.N).Width)) fun y121 =>
  (y121.1, y121.2)
 else
 if ((decide (x1.N < 0)) || (decide ((x0.Program.Headers.length : Int) ≤ x1.N))) then
  (0, 8)
 else
 (1, 0)
def kw (x0 : af) (x1 : List Int) : Int × Int :=
 LET (fun (x10_102 : Bool) =>
  if x10_102 then
   if ((decide (x0.N < 0)) || (decide (31 < x0.N))) then
    (0, 9)
   else
   LET (dv x0.Op) fun y106 =>
   if ((decide (y106 = 2)) && (!decide ((ix x1 0) = (ix x1 1)))) then
    (0, 10)
   else
   if ((decide (x0.Op = 15)) || (decide (x0.Op = 16))) then
    (1, 0)
   else
   ((ix x1 0), 0)
  else
  if (decide (x0.Op = 8)) then
   if (decide (x0.N < 0)) then
    (0, 9)
   else
   LET (pn x0.W) fun y116 =>
   if ((!decide (y116.2 = 0)) || (decide ((wr ((ix x1 0) - x0.W)) < x0.N))) then
    (0, 10)
   else
   (x0.W, 0)
  else
  if (decide (x0.Op = 14)) then
   LET (pn (wr ((ix x1 0) + (ix x1 1)))) fun y123 =>
   (y123.1, y123.2)
  else
  if (decide (x0.Op = 17)) then
   if ((!decide ((ix x1 0) = 1)) || (!decide ((ix x1 1) = (ix x1 2)))) then
    (0, 10)
   else
   ((ix x1 1), 0)
  else
  LET (dv x0.Op) fun y131 =>
  if ((decide (y131 = 2)) && (!decide ((ix x1 0) = (ix x1 1)))) then
   (0, 10)
  else
  if ((decide (x0.Op = 15)) || (decide (x0.Op = 16))) then
   (1, 0)
  else
  ((ix x1 0), 0)) fun k102 =>
 if (decide (x0.Op = 6)) then
  k102 (decide (x0.Op = 6))
 else
 k102 (decide (x0.Op = 7))
def da (x0 : bc) (x1 : List af) (rec_ : bc → (List af) → Int → (Int × Int × Int)) (K1 : Int → (List Int) → (Int × Int × Int)) : Nat → Int → Int → (List Int) → (Int × Int × Int)
 | 0, x7_, x44_, zE109 => K1 x7_ zE109
 | m + 1, x7_, x44_, zE109 =>
   LET (rec_ x0 x1 x7_) fun y112 =>
   if (!decide (y112.2.2 = 0)) then
    (0, 0, y112.2.2)
   else
   da x0 x1 rec_ K1 m y112.2.1 (x44_ + 1) (zE109.set x44_.toNat y112.1)
def dz (rec_ : bc → (List af) → Int → (Int × Int × Int)) (x0 : bc) (x1 : List af) (x2 : Int) : Int × Int × Int :=
 if (decide ((x1.length : Int) ≤ x2)) then
  (0, 0, 3)
 else
 LET (dv ((ix x1 x2).Op)) fun y103 =>
 if (decide (y103 < 0)) then
  (0, 0, 11)
 else
 if (decide (y103 = 0)) then
  LET (fd x0 (ix x1 x2)) fun y107 =>
  (y107.1, (wr (x2 + 1)), y107.2)
 else
 da x0 x1 rec_ (fun (x7_116 : Int) (zE109_116 : List Int) =>
  LET (kw (ix x1 x2) zE109_116) fun y118 =>
  (y118.1, x7_116, y118.2)) (Int.toNat (y103 - 0)) (wr (x2 + 1)) 0 ([0, 0, 0] : List Int)
def db : Nat → bc → (List af) → Int → (Int × Int × Int)
 | 0, x0, x1, x2 => (0, 0, 1)
 | n_ + 1, x0, x1, x2 => dz (db n_) x0 x1 x2
def cn (x0 : bc) (x1 : List af) (x2 : Int) : Int × Int × Int := db ((x1.length - x2.toNat) + 1) x0 x1 x2
def mf (x0 : List af) (x1 : bc) : Int × Int :=
 if (decide (24 < (x0.length : Int))) then
  (0, 12)
 else
 LET (cn x1 x0 0) fun y102 =>
 if (!decide (y102.2.2 = 0)) then
  (0, y102.2.2)
 else
 if (decide (y102.2.1 < (x0.length : Int))) then
  (0, 4)
 else
 (y102.1, 0)
def jc (x0 : cz) (x1 : List af) (x2 : Int) : Int :=
 LET (mf x1 x0.scope) fun y102 =>
 if ((decide (y102.2 = 0)) && (!decide (y102.1 = x2))) then
  10
 else
 y102.2
def ek (x0 : cz) (x1 : ak) : Int :=
 LET (rc x0.scope.Program x1.Dst) fun y107 =>
 if (decide (x1.Kind = 1)) then
  if (!y107.2) then
   8
  else
  LET (jc x0 x1.Value y107.1) fun y113 =>
  y113
 else
 LET (fun (x43_115 : Bool) =>
  if x43_115 then
   if ((decide (x1.Header < 0)) || (decide ((x0.scope.Program.Headers.length : Int) ≤ x1.Header))) then
    8
   else
   0
  else
  LET (fun (x57_121 : Bool) =>
   if x57_121 then
    if ((!((decide (0 ≤ x1.Register)) && (decide (x1.Register < (x0.scope.Program.Registers.length : Int))))) || ((decide (x1.Kind = 4)) && (!y107.2))) then
     8
    else
    LET (mf x1.Index x0.scope) fun y128 =>
    if (!decide (y128.2 = 0)) then
     y128.2
    else
    if (decide (x1.Kind = 5)) then
     LET (jc x0 x1.Value ((ix x0.scope.Program.Registers x1.Register).Width)) fun y134 =>
     y134
    else
    if (!decide (y107.1 = ((ix x0.scope.Program.Registers x1.Register).Width))) then
     10
    else
    0
   else
   11) fun k121 =>
  if (decide (x1.Kind = 4)) then
   k121 (decide (x1.Kind = 4))
  else
  k121 (decide (x1.Kind = 5))) fun k115 =>
 if (decide (x1.Kind = 2)) then
  k115 (decide (x1.Kind = 2))
 else
 k115 (decide (x1.Kind = 3))
def gz (x0 : ab) (x1 : Int) (K0 : Unit → (Int × Int)) : Nat → Int → (Int × Int)
 | 0, x37_ => K0 ()
 | m + 1, x37_ =>
   LET (ek ({ scope := ({ Program := x0, Params := (ix x0.Actions x1).Params } : bc) } : cz) (ix ((ix x0.Actions x1).Body) x37_)) fun y124 =>
   if (!decide (y124 = 0)) then
    (x37_, y124)
   else
   gz x0 x1 K0 m (x37_ + 1)
def gw (x0 : ab) (x1 : Int) : Int × Int :=
 if ((decide (x1 < 0)) || (decide ((x0.Actions.length : Int) ≤ x1))) then
  ((-1), 8)
 else
 LET (ji (ix x0.Actions x1)) fun y109 =>
 if (!decide (y109 = 0)) then
  ((-1), y109)
 else
 gz x0 x1 (fun (_ : Unit) =>
  (0, 0)) (Int.toNat ((((ix x0.Actions x1).Body).length : Int) - 0)) 0
def uy (x0 : BitVec 32) (x1 : Int) : Bool :=
 LET (iw ([x1] : List Int)) fun y102 =>
 (y102 && (decide (x0 ≤ (ck x1))))
def lx (x0 : ab) (x1 : bn) (K0 : Unit → Int) : Nat → Int → Int
 | 0, x35_ => K0 ()
 | m + 1, x35_ =>
   LET (uy (ix x1.Args x35_) ((ix ((ix x0.Actions x1.Action).Params) x35_).Width)) fun y113 =>
   if (!y113) then
    9
   else
   lx x0 x1 K0 m (x35_ + 1)
def fy (x0 : ab) (x1 : bn) : Int :=
 if ((decide (x1.Action < 0)) || (decide ((x0.Actions.length : Int) ≤ x1.Action))) then
  8
 else
 if (!decide ((x1.Args.length : Int) = (((ix x0.Actions x1.Action).Params).length : Int))) then
  2
 else
 lx x0 x1 (fun (_ : Unit) =>
  0) (Int.toNat ((x1.Args.length : Int) - 0)) 0
def ao6 (x0 : au) (x1 : aa) : (BitVec 32) :=
 LET (gi x0 x1) fun y101 =>
 if (!y101.2) then
  0#32
 else
 (ix y101.1 x1.Field)
def lh (x0 : ba) (x1 : af) : aj × ba :=
 LET (fd x0.scope x1) fun y104 =>
 if (decide (x1.Op = 1)) then
  LET (ck y104.1) fun y106 =>
  (({ v := ((BitVec.ofInt 32 x1.N) &&& y106), w := y104.1 } : aj), x0)
 else
 if (decide (x1.Op = 2)) then
  LET (ao6 x0.env ({ Header := x1.N, Field := x1.W } : aa)) fun y111 =>
  LET (ck y104.1) fun y112 =>
  (({ v := (y111 &&& y112), w := y104.1 } : aj), x0)
 else
 if (decide (x1.Op = 3)) then
  if (decide (x1.N < (x0.args.length : Int))) then
   LET (ck y104.1) fun y119 =>
   (({ v := ((ix x0.args x1.N) &&& y119), w := y104.1 } : aj), x0)
  else
  LET (ck y104.1) fun y122 =>
  (({ v := (0#32 &&& y122), w := y104.1 } : aj), x0)
 else
 if (decide (x1.Op = 4)) then
  if ((decide (x1.N < (x0.env.Valid.length : Int))) && (ix x0.env.Valid x1.N)) then
   LET (ck y104.1) fun y132 =>
   (({ v := (1#32 &&& y132), w := y104.1 } : aj), x0)
  else
  LET (ck y104.1) fun y135 =>
  (({ v := (0#32 &&& y135), w := y104.1 } : aj), x0)
 else
 LET (ck y104.1) fun y138 =>
 (({ v := (0#32 &&& y138), w := y104.1 } : aj), x0)
def xi (x0 : BitVec 32) (x1 : Int) : (BitVec 32) :=
 LET (ck x1) fun y101 =>
 ((~~~x0) &&& y101)
def xl (x0 : BitVec 32) (x1 : Int) (x2 : Int) : (BitVec 32) :=
 LET (ck x2) fun y101 =>
 ((x0 <<< (max x1 0).toNat) &&& y101)
def xt (x0 : BitVec 32) (x1 : Int) (x2 : Int) : (BitVec 32) :=
 LET (ck x2) fun y101 =>
 ((x0 &&& y101) >>> (max x1 0).toNat)
def tq (x0 : BitVec 32) (x1 : Int) (x2 : Int) : (BitVec 32) :=
 LET (iw ([x2] : List Int)) fun y102 =>
 if (((!y102) || (decide (x1 < 0))) || (decide ((wr (32 - x2)) < x1))) then
  0#32
 else
 LET (ck x2) fun y106 =>
 ((x0 >>> x1.toNat) &&& y106)
def ya (x0 : af) (x1 : aj) : aj :=
 if (decide (x0.Op = 5)) then
  LET (xi x1.v x1.w) fun y104 =>
  ({ v := y104, w := x1.w } : aj)
 else
 if (decide (x0.Op = 6)) then
  LET (xl x1.v x0.N x1.w) fun y107 =>
  ({ v := y107, w := x1.w } : aj)
 else
 if (decide (x0.Op = 7)) then
  LET (xt x1.v x0.N x1.w) fun y110 =>
  ({ v := y110, w := x1.w } : aj)
 else
 LET (tq x1.v x0.N x0.W) fun y112 =>
 ({ v := y112, w := x0.W } : aj)
def xu (x0 : BitVec 32) (x1 : BitVec 32) (x2 : Int) : (BitVec 32) :=
 LET (ck x2) fun y101 =>
 ((x0 + x1) &&& y101)
def xz (x0 : BitVec 32) (x1 : BitVec 32) (x2 : Int) : (BitVec 32) :=
 LET (ck x2) fun y101 =>
 ((x0 - x1) &&& y101)
def qp (x0 : BitVec 32) (x1 : Int) (x2 : BitVec 32) (x3 : Int) : (BitVec 32) × Bool :=
 LET (iw ([x1, x3] : List Int)) fun y102 =>
 if ((!y102) || (decide (32 < (wr (x1 + x3))))) then
  (0#32, false)
 else
 LET (ck x1) fun y105 =>
 LET (ck x3) fun y106 =>
 ((((x0 &&& y105) <<< x3.toNat) ||| (x2 &&& y106)), true)
def tl (x0 : Bool) : aj :=
 if x0 then
  ({ v := 1#32, w := 1 } : aj)
 else
 ({ v := 0#32, w := 1 } : aj)
def vn (x0 : Int) (x1 : aj) (x2 : aj) : aj :=
 if (decide (x0 = 9)) then
  LET (xu x1.v x2.v x1.w) fun y104 =>
  ({ v := y104, w := x1.w } : aj)
 else
 if (decide (x0 = 10)) then
  LET (xz x1.v x2.v x1.w) fun y107 =>
  ({ v := y107, w := x1.w } : aj)
 else
 if (decide (x0 = 11)) then
  ({ v := (x1.v &&& x2.v), w := x1.w } : aj)
 else
 if (decide (x0 = 12)) then
  ({ v := (x1.v ||| x2.v), w := x1.w } : aj)
 else
 if (decide (x0 = 13)) then
  ({ v := (x1.v ^^^ x2.v), w := x1.w } : aj)
 else
 if (decide (x0 = 14)) then
  LET (qp x1.v x1.w x2.v x2.w) fun y116 =>
  ({ v := y116.1, w := (wr (x1.w + x2.w)) } : aj)
 else
 if (decide (x0 = 15)) then
  LET (tl (decide (x1.v = x2.v))) fun y119 =>
  y119
 else
 LET (tl (decide (x1.v < x2.v))) fun y122 =>
 y122
def jz (rec_ : ba → (aj × ba)) (x0 : ba) : aj × ba :=
 LET (dv ((ix x0.nodes x0.next).Op)) fun y111 =>
 if (decide (y111 = 0)) then
  LET (lh ({ scope := x0.scope, env := x0.env, args := x0.args, nodes := x0.nodes, next := (wr (x0.next + 1)) } : ba) (ix x0.nodes x0.next)) fun y113 =>
  (y113.1, y113.2)
 else
 if (decide (y111 = 1)) then
  LET (rec_ ({ scope := x0.scope, env := x0.env, args := x0.args, nodes := x0.nodes, next := (wr (x0.next + 1)) } : ba)) fun y119 =>
  LET (ya (ix x0.nodes x0.next) y119.1) fun y122 =>
  (y122, y119.2)
 else
 if (decide (y111 = 2)) then
  LET (rec_ ({ scope := x0.scope, env := x0.env, args := x0.args, nodes := x0.nodes, next := (wr (x0.next + 1)) } : ba)) fun y127 =>
  LET (rec_ y127.2) fun y133 =>
  LET (vn ((ix x0.nodes x0.next).Op) y127.1 y133.1) fun y139 =>
  (y139, y133.2)
 else
 LET (rec_ ({ scope := x0.scope, env := x0.env, args := x0.args, nodes := x0.nodes, next := (wr (x0.next + 1)) } : ba)) fun y143 =>
 LET (rec_ y143.2) fun y149 =>
 LET (rec_ y149.2) fun y155 =>
 if (decide (y143.1.v = 1#32)) then
  (y149.1, y155.2)
 else
 (y155.1, y155.2)
def fw : Nat → ba → (aj × ba)
 | 0, x0 => (default, { x0 with next := (cn x0.scope x0.nodes x0.next).2.1 })
 | n_ + 1, x0 => jz (fw n_) x0
def oe (x0 : ba) : aj × ba := fw (x0.nodes.length - x0.next.toNat + 1) x0
def aa4 (x0 : List af) (x1 : bc) (x2 : au) (x3 : List (BitVec 32)) : (BitVec 32) :=
 LET (mf x0 x1) fun y101 =>
 if (!decide (y101.2 = 0)) then
  0#32
 else
 LET (oe ({ scope := x1, env := x2, args := x3, nodes := x0, next := 0 } : ba)) fun y108 =>
 y108.1.v
def jp (x0 : aw) (x1 : List af) : (BitVec 32) :=
 LET (aa4 x1 x0.scope x0.env x0.args) fun y104 =>
 y104
def jy (x0 : aw) (x1 : ak) : aw :=
 LET (jp x0 x1.Value) fun y106 =>
 LET (mr x0.scope.Program x0.env x1.Dst y106) fun y108 =>
 ({ scope := x0.scope, args := x0.args, env := y108, regs := x0.regs } : aw)
def il (x0 : List cj) (x1 : Int) : Bool :=
 ((decide (0 ≤ x1)) && (decide (x1 < (x0.length : Int))))
def lj (x0 : List Bool) (x1 : Int) : Bool :=
 ((decide (0 ≤ x1)) && (decide (x1 < (x0.length : Int))))
def ga (x0 : ab) (x1 : au) (x2 : Int) (x3 x4 : Bool) : au :=
 if (!il x0.Headers x2 || !lj x1.Valid x2) || (x4 && decide (ix x1.Valid x2 = x3)) then x1 else swE x1 x2 x3
def te (x0 : ab) (x1 : au) (x2 : Int) : au :=
 LET (ga x0 x1 x2 true true) fun y103 =>
 y103
def je (x0 : aw) (x1 : ak) : aw :=
 LET (te x0.scope.Program x0.env x1.Header) fun y104 =>
 ({ scope := x0.scope, args := x0.args, env := y104, regs := x0.regs } : aw)
def qh (x0 : ab) (x1 : au) (x2 : Int) : au :=
 LET (ga x0 x1 x2 false false) fun y103 =>
 y103
def iu (x0 : aw) (x1 : ak) : aw :=
 LET (qh x0.scope.Program x0.env x1.Header) fun y104 =>
 ({ scope := x0.scope, args := x0.args, env := y104, regs := x0.regs } : aw)
def gf (x0 : dp) (x1 : Int) (x2 : BitVec 32) : Bool :=
 if (((decide (x1 < 0)) || (decide ((x0.p.Registers.length : Int) ≤ x1))) || (decide ((x0.cells.length : Int) ≤ x1))) then
  false
 else
 ((decide ((x2.toNat : Int) < ((ix x0.p.Registers x1).Size))) && (decide ((x2.toNat : Int) < ((ix x0.cells x1).length : Int))))
def su (x0 : ab) (x1 : List (List (BitVec 32))) (x2 : Int) (x3 : BitVec 32) : (BitVec 32) :=
 LET (gf ({ p := x0, cells := x1 } : dp) x2 x3) fun y102 =>
 if (!y102) then
  0#32
 else
 (ix (ix x1 x2) (x3.toNat : Int))
def lk (x0 : aw) (x1 : ak) : aw :=
 LET (jp x0 x1.Index) fun y105 =>
 LET (su x0.scope.Program x0.regs x1.Register y105) fun y107 =>
 LET (mr x0.scope.Program x0.env x1.Dst y107) fun y112 =>
 ({ scope := x0.scope, args := x0.args, env := y112, regs := x0.regs } : aw)
def gn (x0 : ab) (x1 : List (List (BitVec 32))) (x2 : Int) (x3 x4 : BitVec 32) : List (List (BitVec 32)) :=
 if gf { p := x0, cells := x1 } x2 x3 && decide (0#32 < ck (ix x0.Registers x2).Width) then x1.set x2.toNat ((ix x1 x2).set x3.toNat (x4 &&& ck (ix x0.Registers x2).Width)) else x1
def kn (x0 : aw) (x1 : ak) : aw :=
 LET (jp x0 x1.Index) fun y105 =>
 LET (jp x0 x1.Value) fun y108 =>
 LET (gn x0.scope.Program x0.regs x1.Register y105 y108) fun y110 =>
 ({ scope := x0.scope, args := x0.args, env := x0.env, regs := y110 } : aw)
def gj (x0 : ab) (x1 : bn) (K0 : aw → (au × (List (List (BitVec 32))))) : Nat → Int → aw → (au × (List (List (BitVec 32))))
 | 0, x67_, zE109 => K0 zE109
 | m + 1, x67_, zE109 =>
   if (decide (((ix ((ix x0.Actions x1.Action).Body) x67_).Kind) = 2)) then
    LET (je zE109 (ix ((ix x0.Actions x1.Action).Body) x67_)) fun y135 =>
    gj x0 x1 K0 m (x67_ + 1) y135
   else
   if (decide (((ix ((ix x0.Actions x1.Action).Body) x67_).Kind) = 3)) then
    LET (iu zE109 (ix ((ix x0.Actions x1.Action).Body) x67_)) fun y138 =>
    gj x0 x1 K0 m (x67_ + 1) y138
   else
   if (decide (((ix ((ix x0.Actions x1.Action).Body) x67_).Kind) = 4)) then
    LET (lk zE109 (ix ((ix x0.Actions x1.Action).Body) x67_)) fun y141 =>
    gj x0 x1 K0 m (x67_ + 1) y141
   else
   if (decide (((ix ((ix x0.Actions x1.Action).Body) x67_).Kind) = 5)) then
    LET (kn zE109 (ix ((ix x0.Actions x1.Action).Body) x67_)) fun y144 =>
    gj x0 x1 K0 m (x67_ + 1) y144
   else
   LET (jy zE109 (ix ((ix x0.Actions x1.Action).Body) x67_)) fun y146 =>
   gj x0 x1 K0 m (x67_ + 1) y146
def dt (x0 : ab) (x1 : bn) (x2 : au) (x3 : List (List (BitVec 32))) : au × (List (List (BitVec 32))) :=
 LET (vx x2) fun y103 =>
 LET (pb x3) fun y105 =>
 LET (gw x0 x1.Action) fun y110 =>
 if ((!decide (y110.2 = 0)) || (!decide ((fy x0 x1) = 0))) then
  (y103, y105)
 else
 gj x0 x1 (fun (zE109_148 : aw) =>
  (zE109_148.env, zE109_148.regs)) (Int.toNat ((((ix x0.Actions x1.Action).Body).length : Int) - 0)) 0 ({ scope := ({ Program := x0, Params := (ix x0.Actions x1.Action).Params } : bc), args := x1.Args, env := y103, regs := y105 } : aw)
def jm (x0 : ab) (x1 : Int) : (List ak) :=
 LET (gw x0 x1) fun y101 =>
 if (!decide (y101.2 = 0)) then
  ([] : List ak)
 else
 (ix x0.Actions x1).Body
def pf (x0 : Int) : Bool :=
 (!decide (x0 = x0))
def ki (x0 : Int) (x1 : Int) : Int :=
 LET (pf x0) fun y101 =>
 LET (pf x1) fun y102 =>
 if y101 then
  if y102 then
   0
  else
  (-1)
 else
 if y102 then
  1
 else
 if (decide (x0 < x1)) then
  (-1)
 else
 if (decide (x1 < x0)) then
  1
 else
 0
def mc (x0 : List Int) (K0 : Unit → Int) : Nat → Int → Int
 | 0, x8_ => K0 ()
 | m + 1, x8_ =>
   if (!decide ((ix x0 x8_) = 0)) then
    (ix x0 x8_)
   else
   mc x0 K0 m (x8_ + 1)
def qg (x0 : List Int) : Int :=
 mc x0 (fun (_ : Unit) =>
  0) (Int.toNat ((x0.length : Int) - 0)) 0
def jt (x0 : aa) (x1 : aa) : Int :=
 LET (ki x0.Header x1.Header) fun y101 =>
 LET (ki x0.Field x1.Field) fun y102 =>
 LET (qg ([y101, y102] : List Int)) fun y104 =>
 y104
def fa (x0 : aa) (x1 : aa) : Int :=
 LET (ki x0.Header x1.Header) fun y101 =>
 LET (ki x0.Field x1.Field) fun y102 =>
 LET (qg ([y101, y102] : List Int)) fun y104 =>
 y104
def ko (l : List Int) : List Int := l.mergeSort fun x y => decide (x ≤ y)
def pm (l : List aa) : List aa := l.mergeSort fun x y => !decide (jt y x < 0)
def kr (l : List aa) : List aa := l.mergeSort fun x y => !decide (fa y x < 0)
def io (l : List aa) : List aa := cpt l
def ku (l : List Int) : List Int := cpt l
def lq (x0 : dc) : (List aa) × (List Int) × (List Int) :=
 LET (kr x0.fields) fun y102 =>
 LET (ko x0.headers) fun y104 =>
 LET (ko x0.registers) fun y106 =>
 LET (io y102) fun y108 =>
 LET (ku y104) fun y111 =>
 LET (ku y106) fun y114 =>
 (y108, y111, y114)
def jl (y103 : (List ak)) (x15_ : Int) (K3 : (List Int) → (List Int) → (List aa) → ((List aa) × (List Int) × (List Int))) : Nat → Int → (List Int) → (List Int) → (List aa) → ((List aa) × (List Int) × (List Int))
 | 0, x49_, zE110n2, zE108n2, zE106n2 => K3 zE110n2 zE108n2 zE106n2
 | m + 1, x49_, zE110n2, zE108n2, zE106n2 =>
   jl y103 x15_ K3 m (x49_ + 1) zE110n2 zE108n2 (zE106n2 ++ ([({ Header := (ix y103 x15_).Header, Field := x49_ } : aa)] : List aa))
def fx (x0 : ab) (y103 : (List ak)) (K0 : (List Int) → (List Int) → (List aa) → ((List aa) × (List Int) × (List Int))) : Nat → Int → (List Int) → (List Int) → (List aa) → ((List aa) × (List Int) × (List Int))
 | 0, x15_, zE110, zE108, zE106 => K0 zE110 zE108 zE106
 | m + 1, x15_, zE110, zE108, zE106 =>
   LET (fun (x21_118 : Bool) =>
    if x21_118 then
     fx x0 y103 K0 m (x15_ + 1) zE110 zE108 (zE106 ++ ([(ix y103 x15_).Dst] : List aa))
    else
    LET (fun (x31_125 : Bool) =>
     if x31_125 then
      jl y103 x15_ (fun (zE110n2_138 : List Int) (zE108n2_138 : List Int) (zE106n2_138 : List aa) =>
       fx x0 y103 K0 m (x15_ + 1) zE110n2_138 zE108n2_138 zE106n2_138) (Int.toNat ((((ix x0.Headers ((ix y103 x15_).Header)).Fields).length : Int) - 0)) 0 zE110 (zE108 ++ ([(ix y103 x15_).Header] : List Int)) zE106
     else
     if (decide (((ix y103 x15_).Kind) = 5)) then
      fx x0 y103 K0 m (x15_ + 1) (zE110 ++ ([(ix y103 x15_).Register] : List Int)) zE108 zE106
     else
     fx x0 y103 K0 m (x15_ + 1) zE110 zE108 zE106) fun k125 =>
    if (decide (((ix y103 x15_).Kind) = 2)) then
     k125 (decide (((ix y103 x15_).Kind) = 2))
    else
    k125 (decide (((ix y103 x15_).Kind) = 3))) fun k118 =>
   if (decide (((ix y103 x15_).Kind) = 1)) then
    k118 (decide (((ix y103 x15_).Kind) = 1))
   else
   k118 (decide (((ix y103 x15_).Kind) = 4))
def fb (x0 : ab) (x1 : Int) : (List aa) × (List Int) × (List Int) :=
 LET (jm x0 x1) fun y103 =>
 fx x0 y103 (fun (zE110_145 : List Int) (zE108_145 : List Int) (zE106_145 : List aa) =>
  LET (lq ({ fields := zE106_145, headers := zE108_145, registers := zE110_145 } : dc)) fun y146 =>
  (y146.1, y146.2.1, y146.2.2)) (Int.toNat ((y103.length : Int) - 0)) 0 ([] : List Int) ([] : List Int) ([] : List aa)
def jx (x0 : List aa) (x1 : aa) (K0 : Unit → Bool) : Nat → Int → Bool
 | 0, x5_ => K0 ()
 | m + 1, x5_ =>
   if (decide ((ix x0 x5_) = x1)) then
    true
   else
   jx x0 x1 K0 m (x5_ + 1)
def jh (x0 : List aa) (x1 : aa) : Bool :=
 jx x0 x1 (fun (_ : Unit) =>
  false) (Int.toNat ((x0.length : Int) - 0)) 0
def js (x0 : au) (x1 : aa) : Bool :=
 if (decide (x1.Header = (-1))) then
  ((decide (0 ≤ x1.Field)) && (decide (x1.Field < (x0.Metd.length : Int))))
 else
 ((((decide (0 ≤ x1.Header)) && (decide (x1.Header < (x0.Fields.length : Int)))) && (decide (0 ≤ x1.Field))) && (decide (x1.Field < ((ix x0.Fields x1.Header).length : Int))))
def re (x0 : au) (x1 : Int) : Bool :=
 (((decide (0 ≤ x1)) && (decide (x1 < (x0.Valid.length : Int)))) && (ix x0.Valid x1))
def fm (x0 : au) (x1 : aa) : (BitVec 32) :=
 LET (js x0 x1) fun y101 =>
 if (!y101) then
  0#32
 else
 if (decide (x1.Header = (-1))) then
  (ix x0.Metd x1.Field)
 else
 LET (re x0 x1.Header) fun y105 =>
 if (!y105) then
  0#32
 else
 (ix (ix x0.Fields x1.Header) x1.Field)
def lu (x0 : List Int) (x1 : Int) (K0 : Unit → Bool) : Nat → Int → Bool
 | 0, x5_ => K0 ()
 | m + 1, x5_ =>
   if (decide ((ix x0 x5_) = x1)) then
    true
   else
   lu x0 x1 K0 m (x5_ + 1)
def kv (x0 : List Int) (x1 : Int) : Bool :=
 lu x0 x1 (fun (_ : Unit) =>
  false) (Int.toNat ((x0.length : Int) - 0)) 0
def jg (x0 : List (BitVec 32)) (x1 : List (BitVec 32)) (K0 : Unit → Bool) : Nat → Int → Bool
 | 0, x5_ => K0 ()
 | m + 1, x5_ =>
   if (!decide ((ix x0 x5_) = (ix x1 x5_))) then
    false
   else
   jg x0 x1 K0 m (x5_ + 1)
def jk (x0 : List (BitVec 32)) (x1 : List (BitVec 32)) : Bool :=
 if (!decide ((x0.length : Int) = (x1.length : Int))) then
  false
 else
 jg x0 x1 (fun (_ : Unit) =>
  true) (Int.toNat ((x0.length : Int) - 0)) 0
def ia (x0 : bd) (y114 : au × (List (List (BitVec 32)))) (y122 : (List aa) × (List Int) × (List Int)) (K0 : Unit → Bool) : Nat → Int → Bool
 | 0, x8_ => K0 ()
 | m + 1, x8_ =>
   LET (jh y122.1 ({ Header := (-1), Field := x8_ } : aa)) fun y145 =>
   if ((!y145) && (!decide ((fm y114.1 ({ Header := (-1), Field := x8_ } : aa)) = (fm x0.E ({ Header := (-1), Field := x8_ } : aa))))) then
    false
   else
   ia x0 y114 y122 K0 m (x8_ + 1)
def ib (x0 : bd) (y114 : au × (List (List (BitVec 32)))) (y122 : (List aa) × (List Int) × (List Int)) (x10_ : Int) (K4 : Unit → Bool) : Nat → Int → Bool
 | 0, x11_ => K4 ()
 | m + 1, x11_ =>
   LET (jh y122.1 ({ Header := x10_, Field := x11_ } : aa)) fun y177 =>
   if ((!y177) && (!decide ((fm y114.1 ({ Header := x10_, Field := x11_ } : aa)) = (fm x0.E ({ Header := x10_, Field := x11_ } : aa))))) then
    false
   else
   ib x0 y114 y122 x10_ K4 m (x11_ + 1)
def ie (x0 : bd) (y114 : au × (List (List (BitVec 32)))) (y122 : (List aa) × (List Int) × (List Int)) (K2 : Unit → Bool) : Nat → Int → Bool
 | 0, x10_ => K2 ()
 | m + 1, x10_ =>
   LET (kv y122.2.1 x10_) fun y158 =>
   if ((!y158) && (!decide ((ix y114.1.Valid x10_) = (ix x0.E.Valid x10_)))) then
    false
   else
   ib x0 y114 y122 x10_ (fun (_ : Unit) =>
    ie x0 y114 y122 K2 m (x10_ + 1)) (Int.toNat ((((ix x0.P.Headers x10_).Fields).length : Int) - 0)) 0
def ig (x0 : bd) (y114 : au × (List (List (BitVec 32)))) (y122 : (List aa) × (List Int) × (List Int)) (K6 : Unit → Bool) : Nat → Int → Bool
 | 0, x13_ => K6 ()
 | m + 1, x13_ =>
   LET (kv y122.2.2 x13_) fun y187 =>
   if ((!y187) && (!(jk (ix y114.2 x13_) (ix x0.Regs x13_)))) then
    false
   else
   ig x0 y114 y122 K6 m (x13_ + 1)
def lg (x0 : bd) : Bool :=
 LET (kg x0.P) fun y102 =>
 if (((!y102) || (decide (40 < (x0.Call.Args.length : Int)))) || (!(fc x0))) then
  LET (lc) fun y109 =>
  y109
 else
 LET (dt x0.P x0.Call x0.E x0.Regs) fun y114 =>
 LET (fb x0.P x0.Call.Action) fun y122 =>
 if (((!decide ((y114.1.Valid.length : Int) = (x0.E.Valid.length : Int))) || (!decide ((y114.2.length : Int) = (x0.Regs.length : Int)))) || (!decide (y114.1.Payload = x0.E.Payload))) then
  false
 else
 ia x0 y114 y122 (fun (_ : Unit) =>
  ie x0 y114 y122 (fun (_ : Unit) =>
   ig x0 y114 y122 (fun (_ : Unit) =>
    LET (lc) fun y195 =>
    y195) (Int.toNat ((y114.2.length : Int) - 0)) 0) (Int.toNat ((x0.P.Headers.length : Int) - 0)) 0) (Int.toNat ((x0.P.Metadata.length : Int) - 0)) 0
def rz (x0 : List af) (K0 : (List aa) → (List aa)) : Nat → Int → (List aa) → (List aa)
 | 0, x8_, zE102 => K0 zE102
 | m + 1, x8_, zE102 =>
   if (decide (((ix x0 x8_).Op) = 2)) then
    rz x0 K0 m (x8_ + 1) (zE102 ++ ([({ Header := (ix x0 x8_).N, Field := (ix x0 x8_).W } : aa)] : List aa))
   else
   rz x0 K0 m (x8_ + 1) zE102
def au3 (x0 : List af) : (List aa) :=
 rz x0 (fun (zE102_112 : List aa) =>
  LET (pm zE102_112) fun y113 =>
  LET (io y113) fun y115 =>
  y115) (Int.toNat ((x0.length : Int) - 0)) 0 ([] : List aa)
def qv (x0 : List af) (K0 : (List Int) → (List Int)) : Nat → Int → (List Int) → (List Int)
 | 0, x8_, zE102 => K0 zE102
 | m + 1, x8_, zE102 =>
   if (decide (((ix x0 x8_).Op) = 4)) then
    qv x0 K0 m (x8_ + 1) (zE102 ++ ([(ix x0 x8_).N] : List Int))
   else
   qv x0 K0 m (x8_ + 1) zE102
def ar4 (x0 : List af) : (List Int) :=
 qv x0 (fun (zE102_112 : List Int) =>
  LET (ko zE102_112) fun y113 =>
  LET (ku y113) fun y115 =>
  y115) (Int.toNat ((x0.length : Int) - 0)) 0 ([] : List Int)
def jr (x0 : dc) (x1 : List af) : dc :=
 LET (au3 x1) fun y101 =>
 LET (ar4 x1) fun y105 =>
 ({ fields := (x0.fields ++ y101), headers := (x0.headers ++ y105), registers := x0.registers } : dc)
def qu (y103 : (List ak)) (K0 : dc → ((List aa) × (List Int) × (List Int))) : Nat → Int → dc → ((List aa) × (List Int) × (List Int))
 | 0, x14_, zE102 => K0 zE102
 | m + 1, x14_, zE102 =>
   LET (fun (zE102_143 : dc) =>
    if (((decide (((ix y103 x14_).Kind) = 1)) || (decide (((ix y103 x14_).Kind) = 4))) && (!decide ((((ix y103 x14_).Dst).Header) = (-1)))) then
     qu y103 K0 m (x14_ + 1) ({ fields := zE102_143.fields, headers := (zE102_143.headers ++ ([((ix y103 x14_).Dst).Header] : List Int)), registers := zE102_143.registers } : dc)
    else
    qu y103 K0 m (x14_ + 1) ({ fields := zE102_143.fields, headers := zE102_143.headers, registers := zE102_143.registers } : dc)) fun k143 =>
   if (decide (((ix y103 x14_).Kind) = 1)) then
    LET (jr ({ fields := zE102.fields, headers := zE102.headers, registers := zE102.registers } : dc) ((ix y103 x14_).Value)) fun y155 =>
    k143 ({ fields := y155.fields, headers := y155.headers, registers := y155.registers } : dc)
   else
   if (decide (((ix y103 x14_).Kind) = 2)) then
    k143 ({ fields := zE102.fields, headers := (zE102.headers ++ ([(ix y103 x14_).Header] : List Int)), registers := zE102.registers } : dc)
   else
   if (decide (((ix y103 x14_).Kind) = 4)) then
    LET (jr ({ fields := zE102.fields, headers := zE102.headers, registers := zE102.registers } : dc) ((ix y103 x14_).Index)) fun y165 =>
    k143 ({ fields := y165.fields, headers := y165.headers, registers := (y165.registers ++ ([(ix y103 x14_).Register] : List Int)) } : dc)
   else
   if (decide (((ix y103 x14_).Kind) = 5)) then
    LET (jr ({ fields := zE102.fields, headers := zE102.headers, registers := zE102.registers } : dc) ((ix y103 x14_).Index)) fun y174 =>
    LET (jr ({ fields := y174.fields, headers := y174.headers, registers := y174.registers } : dc) ((ix y103 x14_).Value)) fun y178 =>
    k143 ({ fields := y178.fields, headers := y178.headers, registers := y178.registers } : dc)
   else
   k143 ({ fields := zE102.fields, headers := zE102.headers, registers := zE102.registers } : dc)
def aq4 (x0 : ab) (x1 : Int) : (List aa) × (List Int) × (List Int) :=
 LET (jm x0 x1) fun y103 =>
 qu y103 (fun (zE102_181 : dc) =>
  LET (lq ({ fields := zE102_181.fields, headers := zE102_181.headers, registers := zE102_181.registers } : dc)) fun y182 =>
  (y182.1, y182.2.1, y182.2.2)) (Int.toNat ((y103.length : Int) - 0)) 0 ({ fields := ([] : List aa), headers := ([] : List Int), registers := ([] : List Int) } : dc)
def ut (x0 : bd) (x1 : bd) (x2 : List aa) (K0 : Unit → Bool) : Nat → Int → Bool
 | 0, x11_ => K0 ()
 | m + 1, x11_ =>
   LET (fm x0.E (ix x2 x11_)) fun y105 =>
   LET (fm x1.E (ix x2 x11_)) fun y108 =>
   if (!decide (y105 = y108)) then
    false
   else
   ut x0 x1 x2 K0 m (x11_ + 1)
def uo (x0 : bd) (x1 : bd) (x3 : List Int) (K2 : Unit → Bool) : Nat → Int → Bool
 | 0, x12_ => K2 ()
 | m + 1, x12_ =>
   if ((((decide ((ix x3 x12_) < 0)) || (decide ((x0.E.Valid.length : Int) ≤ (ix x3 x12_)))) || (decide ((x1.E.Valid.length : Int) ≤ (ix x3 x12_)))) || (!decide ((ix x0.E.Valid (ix x3 x12_)) = (ix x1.E.Valid (ix x3 x12_))))) then
    false
   else
   uo x0 x1 x3 K2 m (x12_ + 1)
def uw (x0 : bd) (x1 : bd) (x4 : List Int) (K4 : Unit → Bool) : Nat → Int → Bool
 | 0, x13_ => K4 ()
 | m + 1, x13_ =>
   if ((((decide ((ix x4 x13_) < 0)) || (decide ((x0.Regs.length : Int) ≤ (ix x4 x13_)))) || (decide ((x1.Regs.length : Int) ≤ (ix x4 x13_)))) || (!(jk (ix x0.Regs (ix x4 x13_)) (ix x1.Regs (ix x4 x13_))))) then
    false
   else
   uw x0 x1 x4 K4 m (x13_ + 1)
def vk (x0 : bd) (x1 : bd) (x2 : List aa) (x3 : List Int) (x4 : List Int) : Bool :=
 ut x0 x1 x2 (fun (_ : Unit) =>
  uo x0 x1 x3 (fun (_ : Unit) =>
   uw x0 x1 x4 (fun (_ : Unit) =>
    true) (Int.toNat ((x4.length : Int) - 0)) 0) (Int.toNat ((x3.length : Int) - 0)) 0) (Int.toNat ((x2.length : Int) - 0)) 0
def ax9 (x0 : bd) (x1 : au) (x2 : List (List (BitVec 32))) : Bool :=
 LET (kg x0.P) fun y112 =>
 if ((((!y112) || (decide (40 < (x0.Call.Args.length : Int)))) || (!(fc x0))) || (!(fc ({ P := x0.P, Call := x0.Call, E := x1, Regs := x2 } : bd)))) then
  LET (lc) fun y121 =>
  y121
 else
 LET (aq4 x0.P x0.Call.Action) fun y124 =>
 LET (fb x0.P x0.Call.Action) fun y130 =>
 LET (vk x0 ({ P := x0.P, Call := x0.Call, E := x1, Regs := x2 } : bd) y124.1 y124.2.1 y124.2.2) fun y134 =>
 if ((!y134) || (!(vk x0 ({ P := x0.P, Call := x0.Call, E := x1, Regs := x2 } : bd) y130.1 y130.2.1 y130.2.2))) then
  LET (lc) fun y138 =>
  y138
 else
 LET (dt x0.P x0.Call x0.E x0.Regs) fun y143 =>
 LET (dt x0.P x0.Call x1 x2) fun y150 =>
 LET (vk ({ P := x0.P, Call := x0.Call, E := y143.1, Regs := y143.2 } : bd) ({ P := x0.P, Call := x0.Call, E := y150.1, Regs := y150.2 } : bd) y130.1 y130.2.1 y130.2.2) fun y156 =>
 (y156 && (lc))
def be6 (x0 : bd) : Bool :=
 LET (kg x0.P) fun y104 =>
 if (((!y104) || (decide (40 < (x0.Call.Args.length : Int)))) || (!(fc x0))) then
  LET (lc) fun y111 =>
  y111
 else
 LET (dt x0.P x0.Call x0.E x0.Regs) fun y116 =>
 LET (fc ({ P := x0.P, Call := x0.Call, E := y116.1, Regs := y116.2 } : bd)) fun y123 =>
 (y123 && (lc))
def qs (x0 : List (BitVec 32)) (x1 : List (BitVec 32)) (K0 : Unit → Bool) : Nat → Int → Bool
 | 0, x5_ => K0 ()
 | m + 1, x5_ =>
   if (!decide ((ix x0 x5_) = (ix x1 x5_))) then
    false
   else
   qs x0 x1 K0 m (x5_ + 1)
def qb (x0 : List (BitVec 32)) (x1 : List (BitVec 32)) : Bool :=
 if (!decide ((x0.length : Int) = (x1.length : Int))) then
  false
 else
 qs x0 x1 (fun (_ : Unit) =>
  true) (Int.toNat ((x0.length : Int) - 0)) 0
def uu (x0 : au) (x1 : au) (K0 : Unit → Bool) : Nat → Int → Bool
 | 0, x5_ => K0 ()
 | m + 1, x5_ =>
   if (!decide ((ix x0.Valid x5_) = (ix x1.Valid x5_))) then
    false
   else
   uu x0 x1 K0 m (x5_ + 1)
def ve (x0 : au) (x1 : au) (K2 : Unit → Bool) : Nat → Int → Bool
 | 0, x6_ => K2 ()
 | m + 1, x6_ =>
   LET (qb (ix x0.Fields x6_) (ix x1.Fields x6_)) fun y126 =>
   if (!y126) then
    false
   else
   ve x0 x1 K2 m (x6_ + 1)
def av5 (x0 : au) (x1 : au) : Bool :=
 if (((!decide ((x0.Valid.length : Int) = (x1.Valid.length : Int))) || (!decide ((x0.Fields.length : Int) = (x1.Fields.length : Int)))) || (!decide (x0.Payload = x1.Payload))) then
  false
 else
 uu x0 x1 (fun (_ : Unit) =>
  ve x0 x1 (fun (_ : Unit) =>
   LET (qb x0.Metd x1.Metd) fun y131 =>
   y131) (Int.toNat ((x0.Fields.length : Int) - 0)) 0) (Int.toNat ((x0.Valid.length : Int) - 0)) 0
def vp (x0 : List (List (BitVec 32))) (x1 : List (List (BitVec 32))) (K0 : Unit → Bool) : Nat → Int → Bool
 | 0, x5_ => K0 ()
 | m + 1, x5_ =>
   LET (qb (ix x0 x5_) (ix x1 x5_)) fun y106 =>
   if (!y106) then
    false
   else
   vp x0 x1 K0 m (x5_ + 1)
def at9 (x0 : List (List (BitVec 32))) (x1 : List (List (BitVec 32))) : Bool :=
 if (!decide ((x0.length : Int) = (x1.length : Int))) then
  false
 else
 vp x0 x1 (fun (_ : Unit) =>
  true) (Int.toNat ((x0.length : Int) - 0)) 0
def ax4 (x0 : bd) (x1 : Int) : Bool :=
 LET (kg x0.P) fun y102 =>
 if ((!y102) || (decide (40 < (x0.Call.Args.length : Int)))) then
  LET (lc) fun y107 =>
  y107
 else
 LET (gw x0.P x0.Call.Action) fun y110 =>
 if (((((!decide (y110.2 = 0)) || (decide (x0.Call.Action < 0))) || (decide ((x0.P.Actions.length : Int) ≤ x0.Call.Action))) || (decide (x1 < 0))) || (decide ((((ix x0.P.Actions x0.Call.Action).Body).length : Int) < x1))) then
  LET (lc) fun y122 =>
  y122
 else
 LET (dt ({ Name := x0.P.Name, Headers := x0.P.Headers, Metadata := x0.P.Metadata, Registers := x0.P.Registers, Actions := ([({ Name := ([102, 105, 114, 115, 116] : List UInt8), Params := (ix x0.P.Actions x0.Call.Action).Params, Body := (sub ((ix x0.P.Actions x0.Call.Action).Body) 0 x1) } : bp), ({ Name := ([115, 101, 99, 111, 110, 100] : List UInt8), Params := (ix x0.P.Actions x0.Call.Action).Params, Body := (sub ((ix x0.P.Actions x0.Call.Action).Body) x1 (((ix x0.P.Actions x0.Call.Action).Body).length : Int)) } : bp)] : List bp), Tables := x0.P.Tables, States := x0.P.States, Control := x0.P.Control, Deparser := x0.P.Deparser } : ab) ({ Action := 0, Args := x0.Call.Args } : bn) x0.E x0.Regs) fun y146 =>
 LET (dt ({ Name := x0.P.Name, Headers := x0.P.Headers, Metadata := x0.P.Metadata, Registers := x0.P.Registers, Actions := ([({ Name := ([102, 105, 114, 115, 116] : List UInt8), Params := (ix x0.P.Actions x0.Call.Action).Params, Body := (sub ((ix x0.P.Actions x0.Call.Action).Body) 0 x1) } : bp), ({ Name := ([115, 101, 99, 111, 110, 100] : List UInt8), Params := (ix x0.P.Actions x0.Call.Action).Params, Body := (sub ((ix x0.P.Actions x0.Call.Action).Body) x1 (((ix x0.P.Actions x0.Call.Action).Body).length : Int)) } : bp)] : List bp), Tables := x0.P.Tables, States := x0.P.States, Control := x0.P.Control, Deparser := x0.P.Deparser } : ab) ({ Action := 1, Args := x0.Call.Args } : bn) y146.1 y146.2) fun y154 =>
 LET (dt x0.P x0.Call x0.E x0.Regs) fun y164 =>
 LET (av5 y164.1 y154.1) fun y170 =>
 ((y170 && (at9 y164.2 y154.2)) && (lc))
end Go.Proofs.YtmonnlkagniolaaGreat
