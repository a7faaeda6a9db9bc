import Derived.Test.YtmonnlkagniolaaGreatKTy
import Derived.Test.YtmonnlkagniolaaGreatPbT
set_option linter.unusedVariables false
set_option linter.unusedSimpArgs false
set_option maxRecDepth 100000
namespace Go.Proofs.YtmonnlkagniolaaGreat
open Go Go.Pb Go.RowKit
def putF (e : av) (r : aa) (v : BitVec 32) : av :=
 if r.Header = -1 then { e with Metd := e.Metd.set r.Field.toNat v } else { e with Fields := e.Fields.set r.Header.toNat ((ix e.Fields r.Header).set r.Field.toNat v) }
structure EB (e : av) : Prop where
 v : e.Valid.length ≤ 1048576
 f : e.Fields.length ≤ 1048576
 m : e.Metd.length ≤ 1048576
 p : e.Payload.length ≤ 1048576
 i : ∀ l ∈ e.Fields, l.length ≤ 1048576
theorem ai5 {α : Type} [Inhabited α] {l : List α} {i : Int} (h0 : 0 ≤ i) (h1 : i < l.length) : ix l i ∈ l := by
 rw [ut h0 h1]; exact List.getElem_mem _
theorem EB.setF {e : av} (h : EB e) {k : Nat} {l : List (BitVec 32)} (hl : l.length ≤ 1048576) : EB { e with Fields := e.Fields.set k l } :=
 ⟨h.v, by rw [List.length_set]; exact h.f, h.m, h.p, fun x hx => by
   rcases List.mem_or_eq_of_mem_set hx with h1 | rfl
   ·exact h.i x h1
   ·exact hl⟩
theorem EB.setM {e : av} (h : EB e) {k : Nat} {v : BitVec 32} : EB { e with Metd := e.Metd.set k v } := ⟨h.v, h.f, by rw [List.length_set]; exact h.m, h.p, h.i⟩
theorem EB.setV {e : av} (h : EB e) {k : Nat} {v : Bool} : EB { e with Valid := e.Valid.set k v } := ⟨by rw [List.length_set]; exact h.v, h.f, h.m, h.p, h.i⟩
def swE (e : av) (h : Int) (b : Bool) : av := { e with Valid := e.Valid.set h.toNat b, Fields := e.Fields.set h.toNat (List.replicate (ix e.Fields h).length 0#32) }
structure RB (rs : List (List (BitVec 32))) : Prop where
 o : rs.length ≤ 1048576
 i : ∀ l ∈ rs, l.length ≤ 1048576
end Go.Proofs.YtmonnlkagniolaaGreat
