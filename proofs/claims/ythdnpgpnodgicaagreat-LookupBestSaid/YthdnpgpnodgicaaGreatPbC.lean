/-
  Plain library.
-/
import Derived.Test.YthdnpgpnodgicaaGreatPbK
/-
  Plain library, part 41: functions made with what they see, parts of slices, arrays of one's own.
-/
set_option linter.unusedVariables false
set_option linter.unusedSimpArgs false
namespace Go.Pb
open Go Go.RowKit
section
variable {P : Program} {S : List Fr} {Q : Post} {E : TEnv} {h : Heap} {hf : Bool} {L : List Ent} {r : List AOper} {ty : TypeId} {sz : Nat}
def sub {α : Type} (l : List α) (a b : Int) : List α := (l.drop a.toNat).take (b.toNat - a.toNat)
theorem All2.drop {α : Type} {R : α → PV → Prop} : ∀ {l : List α} {es : List PV} (k : Nat), All2 R l es → All2 R (l.drop k) (es.drop k)
  | _, _, 0, h => h
  | [], [], k + 1, h => by simpa using h
  | a :: l, e :: es, k + 1, h => by simpa using All2.drop k h.2
  | [], _ :: _, _ + 1, h => by simp [All2] at h
  | _ :: _, [], _ + 1, h => by simp [All2] at h
theorem All2.take {α : Type} {R : α → PV → Prop} : ∀ {l : List α} {es : List PV} (k : Nat), All2 R l es → All2 R (l.take k) (es.take k)
  | _, _, 0, h => by simp [All2]
  | [], [], k + 1, h => by simpa using h
  | a :: l, e :: es, k + 1, h => by simpa [All2] using ⟨h.1, All2.take k h.2⟩
  | [], _ :: _, _ + 1, h => by simp [All2] at h
  | _ :: _, [], _ + 1, h => by simp [All2] at h
/-- A bound of a part: not given, or a number. -/
def Bnd (E : TEnv) (d : Int) (o : Option Operand) (a : Int) : Prop := match o with
  | none => a = d
  | some o => evE E o = some (vi a)
theorem Bnd.eq {E : TEnv} {T : Nat → PV} {d : Nat} {o : Option Operand} {a : Int} (H : Bnd E d o a) (hT : Ag E T) (h0 : 0 ≤ a) : boundF T d o = some a.toNat := by
  cases o with
  | none => have e : a = d := H; subst e; simp [boundF]
  | some o => have e : evE E o = some (vi a) := H; simp [boundF, evE_ok hT e, h0]
/-! Arrays of one's own -/
/-! Calls that turn memory -/
/-! Regions whose last operation is a call behind all others -/
def lastK (P : Program) (la : AOper) (S : List Fr) (Q : Post) : Fr := .loop fun T h => runS P [la] S Q T h
/-! Regions in which calls and what turns memory stand in one row -/
def runX (P : Program) (al : List AOper) (S : List Fr) (Q : Post) (T : Nat → PV) (h : Heap) : Prop := wpU P al T h (asPost P S Q .normal)
def RX (P : Program) (l : List AOper) (S : List Fr) (Q : Post) (E : TEnv) (h : Heap) : Prop := ∀ T, Ag E T → runX P l S Q T h
def bx (P : Program) (r : List AOper) (S : List Fr) (Q : Post) : Fr := .loop fun T h => runX P r S Q T h
/-- An own cell that nobody writes any more, told as a frozen one. -/
theorem rs_freezeP {k : Nat} {id ver : Nat} {x : PV} {l : List AOper} {E' : TEnv} (M : Mem h L) (hk : L[k]? = some ⟨.op id ver 0, ty, sz, [x]⟩) (hE : FrzE (.op id ver 0) (.fp x) E E') (K : ∀ h', Mem h' (L.eraseIdx k) → RS P l S Q E' h') : RS P l S Q E h := by
  obtain ⟨hc, x', cs, h1, h2, h3⟩ := M.atF hk
  simp only [List.cons.injEq, and_true] at h1
  subst h1
  have hM : Mem (hput h id (.cells ver ty false cs)) (L.eraseIdx k) := by
    refine ⟨fun e he => ?_, M.dis.sublist (List.eraseIdx_sublist ..)⟩
    obtain ⟨j, hj⟩ := List.getElem?_of_mem he
    rw [List.getElem?_eraseIdx] at hj
    have hjk : ∃ j, j ≠ k ∧ L[j]? = some e := by
      split at hj
      · exact ⟨j, by omega, hj⟩
      · exact ⟨j + 1, by omega, hj⟩
    obtain ⟨j, hne, hj⟩ := hjk
    refine (M.ent e (List.mem_of_getElem? hj)).frame fun i hi _ => ?_
    have ha := pairwise_other M.dis hk hne hj
    exact blk_put_ne h id i _ fun e' => ha i (by simp [idOf, e']) hi
  intro T hT
  refine runS_wk (T' := fun t => match look t E' with | some u => u | none => T t) (h' := hput h id (.cells ver ty false cs)) ?_ (K _ hM _ fun t u e => by simp only [e])
  intro w0 F0 n' z a R hTm
  obtain ⟨y, ew, eJ, Ex, hF, R'⟩ := R.freeze h3
  refine ⟨y, ew, Ex, R', hTm.size, fun t => ?_, hTm.defers⟩
  have h0 := VR_ext Ex (hTm.at_ t)
  split
  · rename_i u hu
    obtain ⟨w, h5, h4⟩ := hE t u hu
    rw [hT t w h5] at h0
    have hb : ∀ us, VRC P y (.op id ver 0) us → VRC P y (.fp x) us := fun us hv => by
      have hone : ∃ u, us = [u] := by
        simp only [VRC] at hv
        obtain ⟨b, _, e⟩ := hv
        exact ⟨_, e⟩
      obtain ⟨u, rfl⟩ := hone
      exact VR_frozenp (u := u) R' (blk_put h id _ (blk_lt h3)) (fun b hj => hF b (by rw [← eJ]; exact hj)) h2 hv
    have := h4.agg_eq rfl
    unfold VR at h0 ⊢
    rw [← this]
    exact AsVal.imp (h4.conv hb) h0
  · exact h0
end
end Go.Pb
