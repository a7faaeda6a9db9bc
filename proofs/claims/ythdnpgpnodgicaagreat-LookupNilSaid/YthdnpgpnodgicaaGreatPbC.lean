/-
  Plain library.
-/
import Derived.Test.YthdnpgpnodgicaaGreatPbK
/-
  Plain library, part 41: functions made with what they see, parts of slices, arrays of one's own.
-/
set_option linter.unusedVariables false
set_option linter.unusedSimpArgs false
namespace Go.Pb
open Go Go.RowKit
section
variable {P : Program} {S : List Fr} {Q : Post} {E : TEnv} {h : Heap} {hf : Bool} {L : List Ent} {r : List AOper} {ty : TypeId} {sz : Nat}
def sub {α : Type} (l : List α) (a b : Int) : List α := (l.drop a.toNat).take (b.toNat - a.toNat)
theorem All2.drop {α : Type} {R : α → PV → Prop} : ∀ {l : List α} {es : List PV} (k : Nat), All2 R l es → All2 R (l.drop k) (es.drop k)
  | _, _, 0, h => h
  | [], [], k + 1, h => by simpa using h
  | a :: l, e :: es, k + 1, h => by simpa using All2.drop k h.2
  | [], _ :: _, _ + 1, h => by simp [All2] at h
  | _ :: _, [], _ + 1, h => by simp [All2] at h
theorem All2.take {α : Type} {R : α → PV → Prop} : ∀ {l : List α} {es : List PV} (k : Nat), All2 R l es → All2 R (l.take k) (es.take k)
  | _, _, 0, h => by simp [All2]
  | [], [], k + 1, h => by simpa using h
  | a :: l, e :: es, k + 1, h => by simpa [All2] using ⟨h.1, All2.take k h.2⟩
  | [], _ :: _, _ + 1, h => by simp [All2] at h
  | _ :: _, [], _ + 1, h => by simp [All2] at h
/-- A bound of a part: not given, or a number. -/
def Bnd (E : TEnv) (d : Int) (o : Option Operand) (a : Int) : Prop := match o with
  | none => a = d
  | some o => evE E o = some (vi a)
theorem Bnd.eq {E : TEnv} {T : Nat → PV} {d : Nat} {o : Option Operand} {a : Int} (H : Bnd E d o a) (hT : Ag E T) (h0 : 0 ≤ a) : boundF T d o = some a.toNat := by
  cases o with
  | none => have e : a = d := H; subst e; simp [boundF]
  | some o => have e : evE E o = some (vi a) := H; simp [boundF, evE_ok hT e, h0]
/-! Arrays of one's own -/
/-! Calls that turn memory -/
/-! Regions whose last operation is a call behind all others -/
def lastK (P : Program) (la : AOper) (S : List Fr) (Q : Post) : Fr := .loop fun T h => runS P [la] S Q T h
/-! Regions in which calls and what turns memory stand in one row -/
def runX (P : Program) (al : List AOper) (S : List Fr) (Q : Post) (T : Nat → PV) (h : Heap) : Prop := wpU P al T h (asPost P S Q .normal)
def RX (P : Program) (l : List AOper) (S : List Fr) (Q : Post) (E : TEnv) (h : Heap) : Prop := ∀ T, Ag E T → runX P l S Q T h
def bx (P : Program) (r : List AOper) (S : List Fr) (Q : Post) : Fr := .loop fun T h => runX P r S Q T h
end
end Go.Pb
