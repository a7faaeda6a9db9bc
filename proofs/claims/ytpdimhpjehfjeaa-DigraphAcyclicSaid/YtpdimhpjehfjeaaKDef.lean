/-
  Each function of this seat as a plain program.
-/
import Derived.Test.YtpdimhpjehfjeaaKTy
import Derived.Test.YtpdimhpjehfjeaaPbV
import Derived.Test.YtpdimhpjehfjeaaPbV
import Derived.Test.YtpdimhpjehfjeaaKHp
set_option linter.unusedVariables false
set_option linter.unusedSimpArgs false
set_option maxRecDepth 100000
namespace Go.Proofs.Ytpdimhpjehfjeaa
open Go Go.Pb Go.RowKit
/-- patchbay/digraph.node -/
def digraph_node (x0 : List (List Int)) (x1 : Int) : Bool :=
  ((decide (0 ≤ x1)) && (decide (x1 < (x0.length : Int))))

def digraph_Check_L2 (x0 : List (List Int)) (x12_ : Int) (K2 : Unit → Int) : Nat → Int → Int
  | 0, x18_ => K2 ()
  | m + 1, x18_ =>
    LET (digraph_node x0 (ix (ix x0 x12_) x18_)) fun y107 =>
    if (!y107) then
      9
    else
    digraph_Check_L2 x0 x12_ K2 m (x18_ + 1)
def digraph_Check_L1 (x0 : List (List Int)) (K0 : Unit → Int) : Nat → Int → Int
  | 0, x12_ => K0 ()
  | m + 1, x12_ =>
    digraph_Check_L2 x0 x12_ (fun (_ : Unit) =>
        digraph_Check_L1 x0 K0 m (x12_ + 1)) (Int.toNat (((ix x0 x12_).length : Int) - 0)) 0
/-- patchbay/digraph.Check -/
def digraph_Check (x0 : List (List Int)) : Int :=
  if (decide (4096 < (x0.length : Int))) then
    12
  else
  digraph_Check_L1 x0 (fun (_ : Unit) =>
      0) (Int.toNat ((x0.length : Int) - 0)) 0

def ref06_Check_L2 (x0 : List (List Int)) (x3_ : Int) (K2 : Unit → Int) : Nat → Int → Int
  | 0, x4_ => K2 ()
  | m + 1, x4_ =>
    if ((decide ((ix (ix x0 x3_) x4_) < 0)) || (decide ((x0.length : Int) ≤ (ix (ix x0 x3_) x4_)))) then
      9
    else
    ref06_Check_L2 x0 x3_ K2 m (x4_ + 1)
def ref06_Check_L1 (x0 : List (List Int)) (K0 : Unit → Int) : Nat → Int → Int
  | 0, x3_ => K0 ()
  | m + 1, x3_ =>
    ref06_Check_L2 x0 x3_ (fun (_ : Unit) =>
        ref06_Check_L1 x0 K0 m (x3_ + 1)) (Int.toNat (((ix x0 x3_).length : Int) - 0)) 0
/-- patchbay/patchbayref06.Check -/
def ref06_Check (x0 : List (List Int)) : Int :=
  if (decide (4096 < (x0.length : Int))) then
    12
  else
  ref06_Check_L1 x0 (fun (_ : Unit) =>
      0) (Int.toNat ((x0.length : Int) - 0)) 0

def slices_Sort__int_int_ (l : List Int) : List Int := l.mergeSort fun x y => decide (x ≤ y)

def slices_Compact__int_int_ (l : List Int) : List Int := cpt l

def digraph_clean_L2 (x0 : List (List Int)) (x13_ : Int) (K2 : (List (List Int)) → (List (List Int))) : Nat → Int → (List (List Int)) → (List (List Int))
  | 0, x20_, zE102n2 => K2 zE102n2
  | m + 1, x20_, zE102n2 =>
    LET (digraph_node x0 (ix (ix x0 x13_) x20_)) fun y108 =>
    if y108 then
      digraph_clean_L2 x0 x13_ K2 m (x20_ + 1) (zE102n2.set (x13_).toNat ((ix zE102n2 x13_) ++ ([(ix (ix x0 x13_) x20_)] : List Int)))
    else
    digraph_clean_L2 x0 x13_ K2 m (x20_ + 1) zE102n2
def digraph_clean_L1 (x0 : List (List Int)) (K0 : (List (List Int)) → (List (List Int))) : Nat → Int → (List (List Int)) → (List (List Int))
  | 0, x13_, zE102 => K0 zE102
  | m + 1, x13_, zE102 =>
    digraph_clean_L2 x0 x13_ (fun (zE102n2_118 : List (List Int)) =>
        LET (slices_Sort__int_int_ (ix zE102n2_118 x13_)) fun y125 =>
        LET (slices_Compact__int_int_ (ix (zE102n2_118.set (x13_).toNat y125) x13_)) fun y134 =>
        digraph_clean_L1 x0 K0 m (x13_ + 1) ((zE102n2_118.set (x13_).toNat y125).set (x13_).toNat y134)) (Int.toNat (((ix x0 x13_).length : Int) - 0)) 0 zE102
/-- patchbay/digraph.clean -/
def digraph_clean (x0 : List (List Int)) : (List (List Int)) :=
  digraph_clean_L1 x0 (fun (zE102_140 : List (List Int)) =>
      zE102_140) (Int.toNat ((x0.length : Int) - 0)) 0 (List.replicate x0.length ([] : List Int))

def digraph_Reverse_L2 (y103 : (List (List Int))) (x14_ : Int) (K2 : (List (List Int)) → (List (List Int))) : Nat → Int → (List (List Int)) → (List (List Int))
  | 0, x21_, zE102n2 => K2 zE102n2
  | m + 1, x21_, zE102n2 =>
    digraph_Reverse_L2 y103 x14_ K2 m (x21_ + 1) (zE102n2.set ((ix (ix y103 x14_) x21_)).toNat ((ix zE102n2 (ix (ix y103 x14_) x21_)) ++ ([x14_] : List Int)))
def digraph_Reverse_L1 (y103 : (List (List Int))) (K0 : (List (List Int)) → (List (List Int))) : Nat → Int → (List (List Int)) → (List (List Int))
  | 0, x14_, zE102 => K0 zE102
  | m + 1, x14_, zE102 =>
    digraph_Reverse_L2 y103 x14_ (fun (zE102n2_118 : List (List Int)) =>
        digraph_Reverse_L1 y103 K0 m (x14_ + 1) zE102n2_118) (Int.toNat (((ix y103 x14_).length : Int) - 0)) 0 zE102
/-- patchbay/digraph.Reverse -/
def digraph_Reverse (x0 : List (List Int)) : (List (List Int)) :=
  LET (digraph_clean x0) fun y103 =>
  digraph_Reverse_L1 y103 (fun (zE102_119 : List (List Int)) =>
      zE102_119) (Int.toNat ((y103.length : Int) - 0)) 0 (List.replicate x0.length ([] : List Int))

/-- patchbay/digraph.distances$1 -/
def digraph_distances_1 (x0 : Int) (x1 : Int) (c0 : List Int) (c1 : List Int) : (List Int) × (List Int) :=
  if (decide ((ix c0 x0) < 0)) then
    ((c0.set (x0).toNat x1), (c1 ++ ([x0] : List Int)))
  else
  (c0, c1)

def digraph_distances_L1 (K0 : (List Int) → (List Int)) : Nat → Int → (List Int) → (List Int)
  | 0, x18_, zE102 => K0 zE102
  | m + 1, x18_, zE102 =>
    digraph_distances_L1 K0 m (x18_ + 1) (zE102.set (x18_).toNat (-1))
def digraph_distances_L3 (x0 : List (List Int)) (x9_ : Int) (zE115 : List Int) (K4 : (List Int) → (List Int) → (List Int)) : Nat → Int → (List Int) → (List Int) → (List Int)
  | 0, x51_, zE115n3, zE102n3 => K4 zE115n3 zE102n3
  | m + 1, x51_, zE115n3, zE102n3 =>
    LET (digraph_node x0 (ix (ix x0 (ix zE115 x9_)) x51_)) fun y129 =>
    if y129 then
      LET (digraph_distances_1 (ix (ix x0 (ix zE115 x9_)) x51_) (wr ((ix zE102n3 (ix zE115 x9_)) + 1)) zE102n3 zE115n3) fun y137 =>
      digraph_distances_L3 x0 x9_ zE115 K4 m (x51_ + 1) y137.2 y137.1
    else
    digraph_distances_L3 x0 x9_ zE115 K4 m (x51_ + 1) zE115n3 zE102n3
def digraph_distances_L2 (x0 : List (List Int)) (K2 : (List Int) → (List Int) → (List Int)) : Nat → Int → (List Int) → (List Int) → (List Int)
  | 0, x9_, zE115, zE102 => K2 zE115 zE102
  | m + 1, x9_, zE115, zE102 =>
    if (decide (x9_ < (zE115.length : Int))) then
      digraph_distances_L3 x0 x9_ zE115 (fun (zE115n3_140 : List Int) (zE102n3_140 : List Int) =>
          digraph_distances_L2 x0 K2 m (wr (x9_ + 1)) zE115n3_140 zE102n3_140) (Int.toNat (((ix x0 (ix zE115 x9_)).length : Int) - 0)) 0 zE115 zE102
    else
    K2 zE115 zE102
/-- patchbay/digraph.distances -/
def digraph_distances (x0 : List (List Int)) (x1 : Int) : (List Int) :=
  digraph_distances_L1 (fun (zE102_110 : List Int) =>
      LET (digraph_node x0 x1) fun y111 =>
      if (!y111) then
        zE102_110
      else
      digraph_distances_L2 x0 (fun (zE115_141 : List Int) (zE102_141 : List Int) =>
          zE102_141) (Int.toNat ((x0.length : Int) - 0)) 0 ([x1] : List Int) (zE102_110.set (x1).toNat 0)) (Int.toNat (((List.replicate x0.length (0 : Int)).length : Int) - 0)) 0 (List.replicate x0.length (0 : Int))

def digraph_descend_L2 (x0 : List (List Int)) (x1 : List Int) (x2_ : Int) (K1 : Int → (List Int) → (List Int)) (K2 : (List Int) → (List Int)) : Nat → Int → Int → (List Int) → (List Int)
  | 0, x2_n2, x22_, zE103n2 => K2 zE103n2
  | m + 1, x2_n2, x22_, zE103n2 =>
    if (decide ((ix x1 (ix (ix x0 x2_) x22_)) = (wr ((ix x1 x2_n2) - 1)))) then
      K1 (ix (ix x0 x2_) x22_) (zE103n2 ++ ([(ix (ix x0 x2_) x22_)] : List Int))
    else
    digraph_descend_L2 x0 x1 x2_ K1 K2 m x2_n2 (x22_ + 1) zE103n2
def digraph_descend_L1 (x0 : List (List Int)) (x1 : List Int) (K0 : (List Int) → (List Int)) : Nat → Int → (List Int) → (List Int)
  | 0, x2_, zE103 => K0 zE103
  | m + 1, x2_, zE103 =>
    if (decide (0 < (ix x1 x2_))) then
      digraph_descend_L2 x0 x1 x2_ (fun (x2_n2_112 : Int) (zE103n2_112 : List Int) =>
          digraph_descend_L1 x0 x1 K0 m x2_n2_112 zE103n2_112) (fun (zE103n2_113 : List Int) =>
          K0 zE103n2_113) (Int.toNat (((ix x0 x2_).length : Int) - 0)) x2_ 0 zE103
    else
    K0 zE103
/-- patchbay/digraph.descend -/
def digraph_descend (x0 : List (List Int)) (x1 : List Int) (x2 : Int) : (List Int) :=
  digraph_descend_L1 x0 x1 (fun (zE103_114 : List Int) =>
      zE103_114) (Int.toNat (ix x1 x2)) x2 ([x2] : List Int)

/-- patchbay/digraph.ShortestPath -/
def digraph_ShortestPath (x0 : List (List Int)) (x1 : Int) (x2 : Int) : (List Int) × Bool :=
  LET (digraph_node x0 x1) fun y101 =>
  if ((!y101) || (!(digraph_node x0 x2))) then
    (([] : List Int), false)
  else
  LET (digraph_Reverse x0) fun y105 =>
  LET (digraph_distances y105 x2) fun y107 =>
  if (decide ((ix y107 x1) < 0)) then
    (([] : List Int), false)
  else
  LET (digraph_clean x0) fun y110 =>
  LET (digraph_descend y110 y107 x1) fun y112 =>
  (y112, true)

/-- cmp.isNaN[int] -/
def cmp_isNaN_int (x0 : Int) : Bool :=
  (!decide (x0 = x0))

/-- cmp.Less[int] -/
def cmp_Less_int (x0 : Int) (x1 : Int) : Bool :=
  LET (cmp_isNaN_int x0) fun y101 =>
  ((y101 && (!(cmp_isNaN_int x1))) || (decide (x0 < x1)))

/-- slices.isNaN[int] -/
def slices_isNaN_int (x0 : Int) : Bool :=
  (!decide (x0 = x0))

def slices_BinarySearch__int_int__L1 (x0 : List Int) (x1 : Int) (K0 : Int → (Int × Bool)) : Nat → Int → Int → (Int × Bool)
  | 0, x7_, x8_ => K0 x7_
  | m + 1, x7_, x8_ =>
    if (decide (x7_ < x8_)) then
      LET (cmp_Less_int (ix x0 (wr (((BitVec.ofInt 64 (wr (x7_ + x8_))) >>> (1#64).toNat).toNat : Int))) x1) fun y103 =>
      if y103 then
        slices_BinarySearch__int_int__L1 x0 x1 K0 m (wr ((wr (((BitVec.ofInt 64 (wr (x7_ + x8_))) >>> (1#64).toNat).toNat : Int)) + 1)) x8_
      else
      slices_BinarySearch__int_int__L1 x0 x1 K0 m x7_ (wr (((BitVec.ofInt 64 (wr (x7_ + x8_))) >>> (1#64).toNat).toNat : Int))
    else
    K0 x7_
/-- slices.BinarySearch[[]int,int] -/
def slices_BinarySearch__int_int_ (x0 : List Int) (x1 : Int) : Int × Bool :=
  slices_BinarySearch__int_int__L1 x0 x1 (fun (x7_105 : Int) =>
      (x7_105, ((decide (x7_105 < (x0.length : Int))) && ((decide ((ix x0 x7_105) = x1)) || ((slices_isNaN_int (ix x0 x7_105)) && (slices_isNaN_int x1)))))) (Int.toNat ((x0.length : Int) - 0)) 0 (x0.length : Int)

def slices_Insert__int_int_ (l : List Int) (i : Int) (v : List Int) : List Int := l.take i.toNat ++ v ++ l.drop i.toNat

/-- patchbay/digraph.order$1 -/
def digraph_order_1 (x0 : Int) (c0 : List Int) : (List Int) :=
  LET (slices_BinarySearch__int_int_ c0 x0) fun y103 =>
  LET (slices_Insert__int_int_ c0 y103.1 ([x0] : List Int)) fun y109 =>
  y109

def slices_Delete__int_int_ (l : List Int) (i j : Int) : List Int := l.take i.toNat ++ l.drop j.toNat

def digraph_order_L2 (x0 : List (List Int)) (x21_ : Int) (K2 : (List Int) → (List Int)) : Nat → Int → (List Int) → (List Int)
  | 0, x27_, zE102n2 => K2 zE102n2
  | m + 1, x27_, zE102n2 =>
    digraph_order_L2 x0 x21_ K2 m (x27_ + 1) (zE102n2.set ((ix (ix x0 x21_) x27_)).toNat (wr ((ix zE102n2 (ix (ix x0 x21_) x27_)) + 1)))
def digraph_order_L1 (x0 : List (List Int)) (K0 : (List Int) → (List Int)) : Nat → Int → (List Int) → (List Int)
  | 0, x21_, zE102 => K0 zE102
  | m + 1, x21_, zE102 =>
    digraph_order_L2 x0 x21_ (fun (zE102n2_112 : List Int) =>
        digraph_order_L1 x0 K0 m (x21_ + 1) zE102n2_112) (Int.toNat (((ix x0 x21_).length : Int) - 0)) 0 zE102
def digraph_order_L3 (zE102_113 : List Int) (K4 : (List Int) → (List Int)) : Nat → Int → (List Int) → (List Int)
  | 0, x42_, zE117 => K4 zE117
  | m + 1, x42_, zE117 =>
    if (decide ((ix zE102_113 x42_) = 0)) then
      LET (digraph_order_1 x42_ zE117) fun y123 =>
      digraph_order_L3 zE102_113 K4 m (x42_ + 1) y123
    else
    digraph_order_L3 zE102_113 K4 m (x42_ + 1) zE117
def digraph_order_L5 (x0 : List (List Int)) (zE117 : List Int) (K8 : (List Int) → (List Int) → (List Int)) : Nat → Int → (List Int) → (List Int) → (List Int)
  | 0, x70_, zE117n5, zE102n5 => K8 zE117n5 zE102n5
  | m + 1, x70_, zE117n5, zE102n5 =>
    if (decide ((ix (zE102n5.set ((ix (ix x0 (ix zE117 (0 : Int))) x70_)).toNat (wr ((ix zE102n5 (ix (ix x0 (ix zE117 (0 : Int))) x70_)) - 1))) (ix (ix x0 (ix zE117 (0 : Int))) x70_)) = 0)) then
      LET (digraph_order_1 (ix (ix x0 (ix zE117 (0 : Int))) x70_) zE117n5) fun y150 =>
      digraph_order_L5 x0 zE117 K8 m (x70_ + 1) y150 (zE102n5.set ((ix (ix x0 (ix zE117 (0 : Int))) x70_)).toNat (wr ((ix zE102n5 (ix (ix x0 (ix zE117 (0 : Int))) x70_)) - 1)))
    else
    digraph_order_L5 x0 zE117 K8 m (x70_ + 1) zE117n5 (zE102n5.set ((ix (ix x0 (ix zE117 (0 : Int))) x70_)).toNat (wr ((ix zE102n5 (ix (ix x0 (ix zE117 (0 : Int))) x70_)) - 1)))
def digraph_order_L4 (x0 : List (List Int)) (K6 : (List Int) → (List Int) → (List Int) → (List Int)) : Nat → (List Int) → (List Int) → (List Int) → (List Int)
  | 0, zE128, zE117, zE102 => K6 zE128 zE117 zE102
  | m + 1, zE128, zE117, zE102 =>
    if (decide (0 < (zE117.length : Int))) then
      LET (slices_Delete__int_int_ zE117 0 1) fun y134 =>
      digraph_order_L5 x0 zE117 (fun (zE117n5_153 : List Int) (zE102n5_153 : List Int) =>
          digraph_order_L4 x0 K6 m (zE128 ++ ([(ix zE117 (0 : Int))] : List Int)) zE117n5_153 zE102n5_153) (Int.toNat (((ix x0 (ix zE117 (0 : Int))).length : Int) - 0)) 0 y134 zE102
    else
    K6 zE128 zE117 zE102
/-- patchbay/digraph.order -/
def digraph_order (x0 : List (List Int)) : (List Int) :=
  digraph_order_L1 x0 (fun (zE102_113 : List Int) =>
      digraph_order_L3 zE102_113 (fun (zE117_126 : List Int) =>
          digraph_order_L4 x0 (fun (zE128_155 : List Int) (zE117_155 : List Int) (zE102_155 : List Int) =>
              zE128_155) (Int.toNat ((x0.length : Int) - ([] : List Int).length)) ([] : List Int) zE117_126 zE102_113) (Int.toNat ((zE102_113.length : Int) - 0)) 0 ([] : List Int)) (Int.toNat ((x0.length : Int) - 0)) 0 (List.replicate x0.length (0 : Int))

/-- patchbay/digraph.TopologicalOrder -/
def digraph_TopologicalOrder (x0 : List (List Int)) : (List Int) × Bool :=
  LET (digraph_clean x0) fun y101 =>
  LET (digraph_order y101) fun y103 =>
  if (decide ((y103.length : Int) < (x0.length : Int))) then
    (([] : List Int), false)
  else
  (y103, true)

def digraph_heights (x0 : List (List Int)) : List Int × Bool := (if (digraph_order x0).length < x0.length then [] else htsL x0 (digraph_order x0).reverse, !decide ((digraph_order x0).length < x0.length))

/-- patchbay/digraph.Levels -/
def digraph_Levels (x0 : List (List Int)) : (List Int) × Bool :=
  LET (digraph_Reverse x0) fun y101 =>
  LET (digraph_heights y101) fun y103 =>
  (y103.1, y103.2)

def slices_Max__int_int_ (l : List Int) : Int := maxL l

def slices_Index__int_int__L1 (x0 : List Int) (x1 : Int) (K0 : Unit → Int) : Nat → Int → Int
  | 0, x8_ => K0 ()
  | m + 1, x8_ =>
    if (decide (x1 = (ix x0 x8_))) then
      x8_
    else
    slices_Index__int_int__L1 x0 x1 K0 m (x8_ + 1)
/-- slices.Index[[]int,int] -/
def slices_Index__int_int_ (x0 : List Int) (x1 : Int) : Int :=
  slices_Index__int_int__L1 x0 x1 (fun (_ : Unit) =>
      (-1)) (Int.toNat ((x0.length : Int) - 0)) 0

/-- patchbay/digraph.LongestPath -/
def digraph_LongestPath (x0 : List (List Int)) : (List Int) × Bool :=
  LET (digraph_clean x0) fun y101 =>
  LET (digraph_heights y101) fun y103 =>
  if ((!y103.2) || (decide ((x0.length : Int) = 0))) then
    (([] : List Int), y103.2)
  else
  LET (slices_Max__int_int_ y103.1) fun y107 =>
  LET (slices_Index__int_int_ y103.1 y107) fun y108 =>
  LET (digraph_descend y101 y103.1 y108) fun y109 =>
  (y109, true)

def digraph_ShortestCycle_L2 (y101 : (List (List Int))) (x17_ : Int) (y107 : (List Int)) (K2 : Int → (List Int)) : Nat → Int → Int → (List Int)
  | 0, x7_, x28_ => K2 x7_
  | m + 1, x7_, x28_ =>
    if (decide ((ix (ix y101 x17_) x28_) = x17_)) then
      ([x17_] : List Int)
    else
    if ((decide (0 ≤ (ix y107 (ix (ix y101 x17_) x28_)))) && ((decide (x7_ < 0)) || (decide ((ix y107 (ix (ix y101 x17_) x28_)) < (ix y107 x7_))))) then
      digraph_ShortestCycle_L2 y101 x17_ y107 K2 m (ix (ix y101 x17_) x28_) (x28_ + 1)
    else
    digraph_ShortestCycle_L2 y101 x17_ y107 K2 m x7_ (x28_ + 1)
def digraph_ShortestCycle_L1 (y101 : (List (List Int))) (y103 : (List (List Int))) (K0 : Unit → (List Int)) : Nat → Int → (List Int)
  | 0, x17_ => K0 ()
  | m + 1, x17_ =>
    LET (digraph_distances y103 x17_) fun y107 =>
    digraph_ShortestCycle_L2 y101 x17_ y107 (fun (x7_117 : Int) =>
        if (decide (x7_117 < 0)) then
          digraph_ShortestCycle_L1 y101 y103 K0 m (x17_ + 1)
        else
        LET (digraph_descend y101 y107 x7_117) fun y120 =>
        (sub (([x17_] : List Int) ++ y120) 0 (wr (((([x17_] : List Int) ++ y120).length : Int) - 1)))) (Int.toNat (((ix y101 x17_).length : Int) - 0)) (-1) 0
/-- patchbay/digraph.ShortestCycle -/
def digraph_ShortestCycle (x0 : List (List Int)) : (List Int) :=
  LET (digraph_clean x0) fun y101 =>
  LET (digraph_Reverse x0) fun y103 =>
  digraph_ShortestCycle_L1 y101 y103 (fun (_ : Unit) =>
      ([] : List Int)) (Int.toNat ((y101.length : Int) - 0)) 0

def digraph_Reachable_L1 (y103 : (List Int)) (K0 : (List Bool) → (List Bool)) : Nat → Int → (List Bool) → (List Bool)
  | 0, x15_, zE102 => K0 zE102
  | m + 1, x15_, zE102 =>
    digraph_Reachable_L1 y103 K0 m (x15_ + 1) (zE102.set (x15_).toNat (decide (0 ≤ (ix y103 x15_))))
/-- patchbay/digraph.Reachable -/
def digraph_Reachable (x0 : List (List Int)) (x1 : Int) : (List Bool) :=
  LET (digraph_distances x0 x1) fun y103 =>
  digraph_Reachable_L1 y103 (fun (zE102_109 : List Bool) =>
      zE102_109) (Int.toNat ((y103.length : Int) - 0)) 0 (List.replicate x0.length false)

def ref06_EqualInts_L1 (x0 : List Int) (x1 : List Int) (K0 : Unit → Bool) : Nat → Int → Bool
  | 0, x5_ => K0 ()
  | m + 1, x5_ =>
    if (!decide ((ix x0 x5_) = (ix x1 x5_))) then
      false
    else
    ref06_EqualInts_L1 x0 x1 K0 m (x5_ + 1)
/-- patchbay/patchbayref06.EqualInts -/
def ref06_EqualInts (x0 : List Int) (x1 : List Int) : Bool :=
  if (!decide ((x0.length : Int) = (x1.length : Int))) then
    false
  else
  ref06_EqualInts_L1 x0 x1 (fun (_ : Unit) =>
      true) (Int.toNat ((x0.length : Int) - 0)) 0

def ref06_EqualBools_L1 (x0 : List Bool) (x1 : List Bool) (K0 : Unit → Bool) : Nat → Int → Bool
  | 0, x5_ => K0 ()
  | m + 1, x5_ =>
    if (!decide ((ix x0 x5_) = (ix x1 x5_))) then
      false
    else
    ref06_EqualBools_L1 x0 x1 K0 m (x5_ + 1)
/-- patchbay/patchbayref06.EqualBools -/
def ref06_EqualBools (x0 : List Bool) (x1 : List Bool) : Bool :=
  if (!decide ((x0.length : Int) = (x1.length : Int))) then
    false
  else
  ref06_EqualBools_L1 x0 x1 (fun (_ : Unit) =>
      true) (Int.toNat ((x0.length : Int) - 0)) 0

def ref06_EqualGraphs_L1 (x0 : List (List Int)) (x1 : List (List Int)) (K0 : Unit → Bool) : Nat → Int → Bool
  | 0, x5_ => K0 ()
  | m + 1, x5_ =>
    LET (ref06_EqualInts (ix x0 x5_) (ix x1 x5_)) fun y106 =>
    if (!y106) then
      false
    else
    ref06_EqualGraphs_L1 x0 x1 K0 m (x5_ + 1)
/-- patchbay/patchbayref06.EqualGraphs -/
def ref06_EqualGraphs (x0 : List (List Int)) (x1 : List (List Int)) : Bool :=
  if (!decide ((x0.length : Int) = (x1.length : Int))) then
    false
  else
  ref06_EqualGraphs_L1 x0 x1 (fun (_ : Unit) =>
      true) (Int.toNat ((x0.length : Int) - 0)) 0

/-- patchbay/patchbaylaw06.works -/
def law06_works : Bool :=
  LET (digraph_ShortestPath ([([1, 2] : List Int), ([3] : List Int), ([3] : List Int), ([] : List Int)] : List (List Int)) 0 3) fun y106 =>
  LET (digraph_TopologicalOrder ([([1, 2] : List Int), ([3] : List Int), ([3] : List Int), ([] : List Int)] : List (List Int))) fun y108 =>
  LET (digraph_Levels ([([1, 2] : List Int), ([3] : List Int), ([3] : List Int), ([] : List Int)] : List (List Int))) fun y110 =>
  LET (digraph_LongestPath ([([1, 2] : List Int), ([3] : List Int), ([3] : List Int), ([] : List Int)] : List (List Int))) fun y112 =>
  LET (digraph_ShortestCycle ([([1] : List Int), ([2] : List Int), ([1] : List Int)] : List (List Int))) fun y118 =>
  LET (digraph_Reachable ([([1, 2] : List Int), ([3] : List Int), ([3] : List Int), ([] : List Int)] : List (List Int)) 1) fun y120 =>
  LET (ref06_EqualInts y106.1 ([0, 1, 3] : List Int)) fun y123 =>
  (((((((((((y123 && y106.2) && (ref06_EqualInts y108.1 ([0, 1, 2, 3] : List Int))) && y108.2) && (ref06_EqualInts y110.1 ([0, 1, 1, 2] : List Int))) && y110.2) && (ref06_EqualInts y112.1 ([0, 1, 3] : List Int))) && y112.2) && (ref06_EqualInts y118 ([1, 2] : List Int))) && (ref06_EqualBools y120 ([false, true, false, true] : List Bool))) && (ref06_EqualGraphs (digraph_Reverse ([([1, 2] : List Int), ([3] : List Int), ([3] : List Int), ([] : List Int)] : List (List Int))) ([([] : List Int), ([0] : List Int), ([0] : List Int), ([1, 2] : List Int)] : List (List Int)))) && (decide ((digraph_Check ([([5] : List Int)] : List (List Int))) = 9)))

/-- patchbay/patchbaylaw06.DigraphChecks -/
def law06_DigraphChecks (x0 : List (List Int)) : Bool :=
  LET (digraph_Check x0) fun y101 =>
  LET (ref06_Check x0) fun y102 =>
  ((decide (y101 = y102)) && (law06_works))

def law06_large_L1 (x0 : List (List Int)) (K0 : Unit → Bool) : Nat → Int → Bool
  | 0, x3_ => K0 ()
  | m + 1, x3_ =>
    if (decide (40 < ((ix x0 x3_).length : Int))) then
      true
    else
    law06_large_L1 x0 K0 m (x3_ + 1)
/-- patchbay/patchbaylaw06.large -/
def law06_large (x0 : List (List Int)) : Bool :=
  if (decide (24 < (x0.length : Int))) then
    true
  else
  law06_large_L1 x0 (fun (_ : Unit) =>
      false) (Int.toNat ((x0.length : Int) - 0)) 0

def ref06_Edge_L1 (x0 : List (List Int)) (x1 : Int) (x2 : Int) (K0 : Unit → Bool) : Nat → Int → Bool
  | 0, x7_ => K0 ()
  | m + 1, x7_ =>
    if (decide ((ix (ix x0 x1) x7_) = x2)) then
      true
    else
    ref06_Edge_L1 x0 x1 x2 K0 m (x7_ + 1)
/-- patchbay/patchbayref06.Edge -/
def ref06_Edge (x0 : List (List Int)) (x1 : Int) (x2 : Int) : Bool :=
  if ((((decide (x1 < 0)) || (decide ((x0.length : Int) ≤ x1))) || (decide (x2 < 0))) || (decide ((x0.length : Int) ≤ x2))) then
    false
  else
  ref06_Edge_L1 x0 x1 x2 (fun (_ : Unit) =>
      false) (Int.toNat (((ix x0 x1).length : Int) - 0)) 0

def ref06_Reverse_L2 (x0 : List (List Int)) (x4_ : Int) (K2 : (List (List Int)) → (List (List Int))) : Nat → Int → (List (List Int)) → (List (List Int))
  | 0, x5_, zE102n2 => K2 zE102n2
  | m + 1, x5_, zE102n2 =>
    LET (ref06_Edge x0 x5_ x4_) fun y107 =>
    if y107 then
      ref06_Reverse_L2 x0 x4_ K2 m (x5_ + 1) (zE102n2.set (x4_).toNat ((ix zE102n2 x4_) ++ ([x5_] : List Int)))
    else
    ref06_Reverse_L2 x0 x4_ K2 m (x5_ + 1) zE102n2
def ref06_Reverse_L1 (x0 : List (List Int)) (K0 : (List (List Int)) → (List (List Int))) : Nat → Int → (List (List Int)) → (List (List Int))
  | 0, x4_, zE102 => K0 zE102
  | m + 1, x4_, zE102 =>
    ref06_Reverse_L2 x0 x4_ (fun (zE102n2_117 : List (List Int)) =>
        ref06_Reverse_L1 x0 K0 m (x4_ + 1) zE102n2_117) (Int.toNat ((x0.length : Int) - 0)) 0 zE102
/-- patchbay/patchbayref06.Reverse -/
def ref06_Reverse (x0 : List (List Int)) : (List (List Int)) :=
  ref06_Reverse_L1 x0 (fun (zE102_118 : List (List Int)) =>
      zE102_118) (Int.toNat ((x0.length : Int) - 0)) 0 (List.replicate x0.length ([] : List Int))

def ref06_distances_L1 (K0 : (List Int) → (List Int)) : Nat → Int → (List Int) → (List Int)
  | 0, x6_, zE102 => K0 zE102
  | m + 1, x6_, zE102 =>
    ref06_distances_L1 K0 m (x6_ + 1) (zE102.set (x6_).toNat (-1))
def ref06_distances_L4 (x0 : List (List Int)) (x7_ : Int) (x8_ : Int) (K6 : (List Int) → (List Int)) : Nat → Int → (List Int) → (List Int)
  | 0, x9_, zE102n4 => K6 zE102n4
  | m + 1, x9_, zE102n4 =>
    if ((decide (x9_ < (x0.length : Int))) && (decide ((ix zE102n4 x8_) < 0))) then
      if ((decide ((ix zE102n4 x9_) = x7_)) && (ref06_Edge x0 x8_ x9_)) then
        ref06_distances_L4 x0 x7_ x8_ K6 m (x9_ + 1) (zE102n4.set (x8_).toNat (wr (x7_ + 1)))
      else
      ref06_distances_L4 x0 x7_ x8_ K6 m (x9_ + 1) zE102n4
    else
    K6 zE102n4
def ref06_distances_L3 (x0 : List (List Int)) (x7_ : Int) (K4 : (List Int) → (List Int)) : Nat → Int → (List Int) → (List Int)
  | 0, x8_, zE102n3 => K4 zE102n3
  | m + 1, x8_, zE102n3 =>
    ref06_distances_L4 x0 x7_ x8_ (fun (zE102n4_132 : List Int) =>
        ref06_distances_L3 x0 x7_ K4 m (x8_ + 1) zE102n4_132) (Int.toNat ((x0.length : Int) - 0)) 0 zE102n3
def ref06_distances_L2 (x0 : List (List Int)) (K2 : (List Int) → (List Int)) : Nat → Int → (List Int) → (List Int)
  | 0, x7_, zE102 => K2 zE102
  | m + 1, x7_, zE102 =>
    ref06_distances_L3 x0 x7_ (fun (zE102n3_133 : List Int) =>
        ref06_distances_L2 x0 K2 m (x7_ + 1) zE102n3_133) (Int.toNat ((x0.length : Int) - 0)) 0 zE102
/-- patchbay/patchbayref06.distances -/
def ref06_distances (x0 : List (List Int)) (x1 : Int) : (List Int) :=
  ref06_distances_L1 (fun (zE102_107 : List Int) =>
      if ((decide (x1 < 0)) || (decide ((x0.length : Int) ≤ x1))) then
        zE102_107
      else
      ref06_distances_L2 x0 (fun (zE102_134 : List Int) =>
          zE102_134) (Int.toNat ((x0.length : Int) - 0)) 0 (zE102_107.set (x1).toNat 0)) (Int.toNat ((x0.length : Int) - 0)) 0 (List.replicate x0.length (0 : Int))

def ref06_Reachable_L1 (y103 : (List Int)) (K0 : (List Bool) → (List Bool)) : Nat → Int → (List Bool) → (List Bool)
  | 0, x7_, zE106 => K0 zE106
  | m + 1, x7_, zE106 =>
    ref06_Reachable_L1 y103 K0 m (x7_ + 1) (zE106.set (x7_).toNat (decide (0 ≤ (ix y103 x7_))))
/-- patchbay/patchbayref06.Reachable -/
def ref06_Reachable (x0 : List (List Int)) (x1 : Int) : (List Bool) :=
  LET (ref06_Reverse x0) fun y101 =>
  LET (ref06_distances y101 x1) fun y103 =>
  ref06_Reachable_L1 y103 (fun (zE106_111 : List Bool) =>
      zE106_111) (Int.toNat ((x0.length : Int) - 0)) 0 (List.replicate x0.length false)

/-- patchbay/patchbaylaw06.DigraphReachable -/
def law06_DigraphReachable (x0 : List (List Int)) (x1 : Int) : Bool :=
  LET (law06_large x0) fun y101 =>
  if y101 then
    LET (law06_works) fun y103 =>
    y103
  else
  LET (digraph_Reachable x0 x1) fun y104 =>
  LET (ref06_Reachable x0 x1) fun y106 =>
  LET (ref06_EqualBools y104 y106) fun y108 =>
  (y108 && (law06_works))

def ref06_descend_L2 (x0 : List (List Int)) (x1 : List Int) (x2_ : Int) (x8_ : Int) (K2 : Int → (List Int)) : Nat → Int → (List Int)
  | 0, x9_ => K2 x9_
  | m + 1, x9_ =>
    if ((decide (x9_ < (wr ((x0.length : Int) - 1)))) && (!((decide ((ix x1 x9_) = (wr (x8_ - 1)))) && (ref06_Edge x0 x2_ x9_)))) then
      ref06_descend_L2 x0 x1 x2_ x8_ K2 m (x9_ + 1)
    else
    K2 x9_
def ref06_descend_L1 (x0 : List (List Int)) (x1 : List Int) (K0 : (List Int) → (List Int)) : Nat → Int → Int → (List Int) → (List Int)
  | 0, x2_, x8_, zE103 => K0 zE103
  | m + 1, x2_, x8_, zE103 =>
    if (decide (0 < x8_)) then
      ref06_descend_L2 x0 x1 x2_ x8_ (fun (x9_114 : Int) =>
          ref06_descend_L1 x0 x1 K0 m x9_114 (wr (x8_ - 1)) (zE103 ++ ([x9_114] : List Int))) (Int.toNat ((wr ((x0.length : Int) - 1)) - 0)) 0
    else
    K0 zE103
/-- patchbay/patchbayref06.descend -/
def ref06_descend (x0 : List (List Int)) (x1 : List Int) (x2 : Int) : (List Int) :=
  ref06_descend_L1 x0 x1 (fun (zE103_117 : List Int) =>
      zE103_117) (Int.toNat ((ix x1 x2))) x2 (ix x1 x2) ([x2] : List Int)

/-- patchbay/patchbayref06.ShortestPath -/
def ref06_ShortestPath (x0 : List (List Int)) (x1 : Int) (x2 : Int) : (List Int) × Bool :=
  LET (ref06_distances x0 x2) fun y101 =>
  if (((decide (x1 < 0)) || (decide ((x0.length : Int) ≤ x1))) || (decide ((ix y101 x1) < 0))) then
    (([] : List Int), false)
  else
  LET (ref06_descend x0 y101 x1) fun y106 =>
  (y106, true)

/-- patchbay/patchbaylaw06.DigraphPaths -/
def law06_DigraphPaths (x0 : List (List Int)) (x1 : Int) (x2 : Int) : Bool :=
  LET (law06_large x0) fun y101 =>
  if y101 then
    LET (law06_works) fun y103 =>
    y103
  else
  LET (digraph_ShortestPath x0 x1 x2) fun y104 =>
  LET (ref06_ShortestPath x0 x1 x2) fun y106 =>
  LET (ref06_EqualInts y104.1 y106.1) fun y108 =>
  ((y108 && (decide (y104.2 = y106.2))) && (law06_works))

def ref06_TopologicalOrder_L3 (x0 : List (List Int)) (zE102 : List Bool) (x7_ : Int) (K4 : Bool → ((List Int) × Bool)) : Nat → Bool → Int → ((List Int) × Bool)
  | 0, x8_, x9_ => K4 x8_
  | m + 1, x8_, x9_ =>
    if ((decide (x9_ < (x0.length : Int))) && x8_) then
      ref06_TopologicalOrder_L3 x0 zE102 x7_ K4 m ((ix zE102 x9_) || (!(ref06_Edge x0 x9_ x7_))) (x9_ + 1)
    else
    K4 x8_
def ref06_TopologicalOrder_L2 (x0 : List (List Int)) (zE102 : List Bool) (K2 : Int → ((List Int) × Bool)) : Nat → Int → Int → ((List Int) × Bool)
  | 0, x6_, x7_ => K2 x6_
  | m + 1, x6_, x7_ =>
    if ((decide (x7_ < (x0.length : Int))) && (decide (x6_ < 0))) then
      ref06_TopologicalOrder_L3 x0 zE102 x7_ (fun (x8_121 : Bool) =>
          if x8_121 then
            ref06_TopologicalOrder_L2 x0 zE102 K2 m x7_ (x7_ + 1)
          else
          ref06_TopologicalOrder_L2 x0 zE102 K2 m x6_ (x7_ + 1)) (Int.toNat ((x0.length : Int) - 0)) (!(ix zE102 x7_)) 0
    else
    K2 x6_
def ref06_TopologicalOrder_L1 (x0 : List (List Int)) (K0 : (List Int) → (List Bool) → ((List Int) × Bool)) : Nat → (List Int) → (List Bool) → ((List Int) × Bool)
  | 0, zE104, zE102 => K0 zE104 zE102
  | m + 1, zE104, zE102 =>
    if (decide ((zE104.length : Int) < (x0.length : Int))) then
      ref06_TopologicalOrder_L2 x0 zE102 (fun (x6_123 : Int) =>
          if (decide (x6_123 < 0)) then
            (([] : List Int), false)
          else
          ref06_TopologicalOrder_L1 x0 K0 m (zE104 ++ ([x6_123] : List Int)) (zE102.set (x6_123).toNat true)) (Int.toNat ((x0.length : Int) - 0)) (-1) 0
    else
    K0 zE104 zE102
/-- patchbay/patchbayref06.TopologicalOrder -/
def ref06_TopologicalOrder (x0 : List (List Int)) : (List Int) × Bool :=
  ref06_TopologicalOrder_L1 x0 (fun (zE104_129 : List Int) (zE102_129 : List Bool) =>
      (zE104_129, true)) (Int.toNat ((x0.length : Int) - ([] : List Int).length)) ([] : List Int) (List.replicate x0.length false)

def ref06_Levels_L2 (x0 : List (List Int)) (y101 : (List Int) × Bool) (x7_ : Int) (K2 : (List Int) → ((List Int) × Bool)) : Nat → Int → (List Int) → ((List Int) × Bool)
  | 0, x8_, zE105n2 => K2 zE105n2
  | m + 1, x8_, zE105n2 =>
    LET (ref06_Edge x0 x8_ (ix y101.1 x7_)) fun y110 =>
    if y110 then
      ref06_Levels_L2 x0 y101 x7_ K2 m (x8_ + 1) (zE105n2.set ((ix y101.1 x7_)).toNat (max (ix zE105n2 (ix y101.1 x7_)) (wr ((ix zE105n2 x8_) + 1))))
    else
    ref06_Levels_L2 x0 y101 x7_ K2 m (x8_ + 1) zE105n2
def ref06_Levels_L1 (x0 : List (List Int)) (y101 : (List Int) × Bool) (K0 : (List Int) → ((List Int) × Bool)) : Nat → Int → (List Int) → ((List Int) × Bool)
  | 0, x7_, zE105 => K0 zE105
  | m + 1, x7_, zE105 =>
    ref06_Levels_L2 x0 y101 x7_ (fun (zE105n2_118 : List Int) =>
        ref06_Levels_L1 x0 y101 K0 m (x7_ + 1) zE105n2_118) (Int.toNat ((x0.length : Int) - 0)) 0 zE105
/-- patchbay/patchbayref06.Levels -/
def ref06_Levels (x0 : List (List Int)) : (List Int) × Bool :=
  LET (ref06_TopologicalOrder x0) fun y101 =>
  if (!y101.2) then
    (([] : List Int), false)
  else
  ref06_Levels_L1 x0 y101 (fun (zE105_119 : List Int) =>
      (zE105_119, true)) (Int.toNat ((y101.1.length : Int) - 0)) 0 (List.replicate x0.length (0 : Int))

def ref06_LongestPath_L1 (y103 : (List Int) × Bool) (K0 : Int → ((List Int) × Bool)) : Nat → Int → Int → ((List Int) × Bool)
  | 0, x6_, x7_ => K0 x6_
  | m + 1, x6_, x7_ =>
    if (decide ((ix y103.1 x6_) < (ix y103.1 x7_))) then
      ref06_LongestPath_L1 y103 K0 m x7_ (x7_ + 1)
    else
    ref06_LongestPath_L1 y103 K0 m x6_ (x7_ + 1)
/-- patchbay/patchbayref06.LongestPath -/
def ref06_LongestPath (x0 : List (List Int)) : (List Int) × Bool :=
  LET (ref06_Reverse x0) fun y101 =>
  LET (ref06_Levels y101) fun y103 =>
  if ((!y103.2) || (decide ((x0.length : Int) = 0))) then
    (([] : List Int), y103.2)
  else
  ref06_LongestPath_L1 y103 (fun (x6_110 : Int) =>
      LET (ref06_descend x0 y103.1 x6_110) fun y111 =>
      (y111, true)) (Int.toNat ((x0.length : Int) - 1)) 0 1

/-- patchbay/patchbaylaw06.DigraphOrders -/
def law06_DigraphOrders (x0 : List (List Int)) : Bool :=
  LET (law06_large x0) fun y101 =>
  if y101 then
    LET (law06_works) fun y103 =>
    y103
  else
  LET (digraph_TopologicalOrder x0) fun y104 =>
  LET (ref06_TopologicalOrder x0) fun y106 =>
  LET (digraph_Levels x0) fun y108 =>
  LET (ref06_Levels x0) fun y110 =>
  LET (digraph_LongestPath x0) fun y112 =>
  LET (ref06_LongestPath x0) fun y114 =>
  LET (ref06_EqualInts y104.1 y106.1) fun y116 =>
  ((((((y116 && (decide (y104.2 = y106.2))) && (ref06_EqualInts y108.1 y110.1)) && (decide (y108.2 = y110.2))) && (ref06_EqualInts y112.1 y114.1)) && (decide (y112.2 = y114.2))) && (law06_works))

def ref06_ShortestCycle_L2 (x0 : List (List Int)) (x3_ : Int) (y103 : (List Int)) (K2 : Int → (List Int)) : Nat → Int → Int → (List Int)
  | 0, x5_, x6_ => K2 x5_
  | m + 1, x5_, x6_ =>
    LET (ref06_Edge x0 x3_ x6_) fun y107 =>
    if ((y107 && (decide (0 ≤ (ix y103 x6_)))) && ((decide (x5_ < 0)) || (decide ((ix y103 x6_) < (ix y103 x5_))))) then
      ref06_ShortestCycle_L2 x0 x3_ y103 K2 m x6_ (x6_ + 1)
    else
    ref06_ShortestCycle_L2 x0 x3_ y103 K2 m x5_ (x6_ + 1)
def ref06_ShortestCycle_L1 (x0 : List (List Int)) (K0 : Unit → (List Int)) : Nat → Int → (List Int)
  | 0, x3_ => K0 ()
  | m + 1, x3_ =>
    LET (ref06_distances x0 x3_) fun y103 =>
    ref06_ShortestCycle_L2 x0 x3_ y103 (fun (x5_112 : Int) =>
        if (decide (0 ≤ x5_112)) then
          LET (ref06_descend x0 y103 x5_112) fun y115 =>
          (sub (([x3_] : List Int) ++ y115) 0 (wr (((([x3_] : List Int) ++ y115).length : Int) - 1)))
        else
        ref06_ShortestCycle_L1 x0 K0 m (x3_ + 1)) (Int.toNat ((x0.length : Int) - 0)) (-1) 0
/-- patchbay/patchbayref06.ShortestCycle -/
def ref06_ShortestCycle (x0 : List (List Int)) : (List Int) :=
  ref06_ShortestCycle_L1 x0 (fun (_ : Unit) =>
      ([] : List Int)) (Int.toNat ((x0.length : Int) - 0)) 0

/-- patchbay/patchbaylaw06.DigraphCycles -/
def law06_DigraphCycles (x0 : List (List Int)) : Bool :=
  LET (law06_large x0) fun y101 =>
  if y101 then
    LET (law06_works) fun y103 =>
    y103
  else
  LET (digraph_ShortestCycle x0) fun y104 =>
  LET (ref06_ShortestCycle x0) fun y106 =>
  LET (ref06_EqualInts y104 y106) fun y108 =>
  ((y108 && (ref06_EqualGraphs (digraph_Reverse x0) (ref06_Reverse x0))) && (law06_works))

def law06_path_L1 (x0 : List (List Int)) (x1 : List Int) (K0 : Unit → Bool) : Nat → Int → Bool
  | 0, x5_ => K0 ()
  | m + 1, x5_ =>
    if (((decide ((ix x1 x5_) < 0)) || (decide ((x0.length : Int) ≤ (ix x1 x5_)))) || ((decide (0 < x5_)) && (!(ref06_Edge x0 (ix x1 (wr (x5_ - 1))) (ix x1 x5_))))) then
      false
    else
    law06_path_L1 x0 x1 K0 m (x5_ + 1)
/-- patchbay/patchbaylaw06.path -/
def law06_path (x0 : List (List Int)) (x1 : List Int) : Bool :=
  law06_path_L1 x0 x1 (fun (_ : Unit) =>
      true) (Int.toNat ((x1.length : Int) - 0)) 0

def law06_DigraphAcyclic_L1 (y108 : (List Int) × Bool) (K0 : Int → Bool) : Nat → Int → Int → Bool
  | 0, x11_, x12_ => K0 x11_
  | m + 1, x11_, x12_ =>
    law06_DigraphAcyclic_L1 y108 K0 m (max x11_ (ix y108.1 x12_)) (x12_ + 1)
/-- patchbay/patchbaylaw06.DigraphAcyclic -/
def law06_DigraphAcyclic (x0 : List (List Int)) : Bool :=
  LET (law06_large x0) fun y101 =>
  if y101 then
    LET (law06_works) fun y103 =>
    y103
  else
  LET (digraph_ShortestCycle x0) fun y104 =>
  LET (digraph_TopologicalOrder x0) fun y106 =>
  LET (digraph_Levels x0) fun y108 =>
  LET (digraph_LongestPath x0) fun y110 =>
  if (((!decide (y106.2 = (decide ((y104.length : Int) = 0)))) || (!decide (y108.2 = (decide ((y104.length : Int) = 0))))) || (!decide (y110.2 = (decide ((y104.length : Int) = 0))))) then
    false
  else
  if (!(decide ((y104.length : Int) = 0))) then
    LET (law06_path x0 (y104 ++ ([(ix y104 0)] : List Int))) fun y122 =>
    ((y122 && (decide ((wr ((wr ((y106.1.length : Int) + (y108.1.length : Int))) + (y110.1.length : Int))) = 0))) && (law06_works))
  else
  law06_DigraphAcyclic_L1 y108 (fun (x11_129 : Int) =>
      (((((decide ((y106.1.length : Int) = (x0.length : Int))) && (decide ((y108.1.length : Int) = (x0.length : Int)))) && (law06_path x0 y110.1)) && (decide ((y110.1.length : Int) = (wr (x11_129 + 1))))) && (law06_works))) (Int.toNat ((y108.1.length : Int) - 0)) (-1) 0

def law06_DigraphReverses_L2 (x0 : List (List Int)) (y112 : (List (List Int))) (x13_ : Int) (K2 : Unit → Bool) : Nat → Int → Bool
  | 0, x14_ => K2 ()
  | m + 1, x14_ =>
    LET (ref06_Edge x0 x13_ x14_) fun y127 =>
    LET (ref06_Edge y112 x13_ x14_) fun y128 =>
    if (!decide (y127 = y128)) then
      false
    else
    law06_DigraphReverses_L2 x0 y112 x13_ K2 m (x14_ + 1)
def law06_DigraphReverses_L1 (x0 : List (List Int)) (y112 : (List (List Int))) (K0 : Unit → Bool) : Nat → Int → Bool
  | 0, x13_ => K0 ()
  | m + 1, x13_ =>
    law06_DigraphReverses_L2 x0 y112 x13_ (fun (_ : Unit) =>
        law06_DigraphReverses_L1 x0 y112 K0 m (x13_ + 1)) (Int.toNat ((x0.length : Int) - 0)) 0
/-- patchbay/patchbaylaw06.DigraphReverses -/
def law06_DigraphReverses (x0 : List (List Int)) (x1 : Int) (x2 : Int) : Bool :=
  LET (law06_large x0) fun y101 =>
  if y101 then
    LET (law06_works) fun y103 =>
    y103
  else
  LET (digraph_Reverse x0) fun y104 =>
  LET (digraph_Reachable x0 x1) fun y106 =>
  LET (digraph_Reachable y104 x2) fun y108 =>
  LET (digraph_ShortestPath x0 x1 x2) fun y110 =>
  LET (digraph_Reverse y104) fun y112 =>
  if (((!decide ((y106.length : Int) = (x0.length : Int))) || (!decide ((y108.length : Int) = (x0.length : Int)))) || (!decide ((y112.length : Int) = (x0.length : Int)))) then
    false
  else
  if (((((decide (0 ≤ x1)) && (decide (x1 < (x0.length : Int)))) && (decide (0 ≤ x2))) && (decide (x2 < (x0.length : Int)))) && ((!decide ((ix y106 x2) = y110.2)) || (!decide ((ix y108 x1) = y110.2)))) then
    false
  else
  law06_DigraphReverses_L1 x0 y112 (fun (_ : Unit) =>
      LET (law06_works) fun y132 =>
      y132) (Int.toNat ((x0.length : Int) - 0)) 0

end Go.Proofs.Ytpdimhpjehfjeaa
