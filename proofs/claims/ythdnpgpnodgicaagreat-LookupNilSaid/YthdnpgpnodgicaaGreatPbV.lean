/-
  Plain library.
-/
import Derived.Test.YthdnpgpnodgicaaGreatPbC
import Derived.Sort.Grow
/-
  Plain library, part 42: parts of an own slice, what is cleared and cut off, and calls that turn one row of own memory.
-/
set_option linter.unusedVariables false
set_option linter.unusedSimpArgs false
namespace Go.Pb
open Go Go.RowKit
section
variable {P : Program} {S : List Fr} {Q : Post} {E : TEnv} {h : Heap} {hf : Bool} {L : List Ent} {r : List AOper} {ty : TypeId} {sz : Nat}
/-- Of an own block less is told. -/
theorem RelP.cut {w0 : World} {F0 : Nat → Prop} {x : Cx} (R : RelP P w0 F0 h x) {id ver m : Nat} {t : TypeId} {cs : List PV} (hb : h.bl[id]? = some (.cells ver t true cs)) : RelP P w0 F0 (hput h id (.cells ver t true (cs.take m))) x := by
  have hset : ∀ (k : Nat) blk, (h.bl.set id (.cells ver t true (cs.take m)))[k]? = some blk → ∃ blk', h.bl[k]? = some blk' ∧ blk'.ver = blk.ver ∧ (blk = blk' ∨ (k = id ∧ blk = .cells ver t true (cs.take m))) := fun k blk hk => by
    rcases bl_set k blk hk with ⟨rfl, rfl⟩ | ⟨hne, hk'⟩
    · exact ⟨_, hb, rfl, .inr ⟨rfl, rfl⟩⟩
    · exact ⟨blk, hk', rfl, .inl rfl⟩
  refine ⟨R.below, R.f0, R.fsub, R.fnew, R.own, R.fresh, fun id1 id2 b1 b2 b h1 h2 h3 h4 => ?_, fun k blk hk => ?_⟩
  · obtain ⟨c1, e1, v1, _⟩ := hset id1 b1 h1
    obtain ⟨c2, e2, v2, _⟩ := hset id2 b2 h2
    exact R.inj id1 id2 c1 c2 b e1 e2 (by rw [v1]; exact h3) (by rw [v2]; exact h4)
  · obtain ⟨c1, e1, v1, hc⟩ := hset k blk hk
    rcases hc with rfl | ⟨rfl, rfl⟩
    · exact R.hr k _ e1
    · intro b hj
      obtain ⟨⟨cur, h5, h6, h7⟩, h8⟩ := R.hr k _ hb b hj
      refine ⟨⟨cur, h5, by simp; omega, ?_⟩, h8⟩
      have := VRL_take m h7
      rw [List.take_take] at this
      rw [List.length_take]
      exact this
/-! Compact, as a plain program -/
def cpF {α : Type} [Inhabited α] [DecidableEq α] (l : List α) : Nat → List α
  | 0 => []
  | m + 1 => cpF l m ++ (if m = 0 ∨ ix l (m : Int) ≠ ix l ((m : Int) - 1) then [ix l (m : Int)] else [])
def cpt {α : Type} [Inhabited α] [DecidableEq α] (l : List α) : List α := cpF l l.length
end
end Go.Pb

/-
  Plain library, part 44: short forms for the printed proofs; the code of a function reckoned from the program.
-/
set_option linter.unusedVariables false
set_option linter.unusedSimpArgs false
namespace Go.Pb
open Go Go.RowKit

/-! The code of a function, reckoned from the program -/
/-- The code of a function in our form. -/
def cO (P : Program) (own : List Tmp) (n : Nat) (f : Func) : AC := (compC P own n (f.body.getD .skip)).getD .skip
/-- The bodies of the loops, the outer before the inner. -/
def loops : AC → List AC
  | .seq a b => loops a ++ loops b
  | .cond _ a b => loops a ++ loops b
  | .block _ b => loops b
  | .scope b => loops b
  | .loop b => b :: loops b
  | _ => []
def lP (k : Nat) (c : AC) : AC := (loops c).getD k .skip
/-- What a term comes to, in full. -/
abbrev rdc (c w : AC) (h : c = w) : AC := w
theorem tX {P : Program} {f : FuncId} {own : List Tmp} {n np : Nat} {ac : AC} {rs : List (Tmp × Option (Nat × Bool))} {fn : Func} (e : Enters P f) (fo : P.follows .mixedOrders = true) (h : P.funcs[f]? = some fn)
    (hb : fn.body = some (fn.body.getD .skip)) (hn : fn.ntmps = n) (hp : np ≤ n) (hc : compC P own n (fn.body.getD .skip) = some ac) (hr : compRes P fn.results.toList = some rs) : FnText P f own n np ac rs :=
  ⟨e, fo, fn, _, h, hb, hn, hp, hc, hr⟩

section
variable {P : Program} {S : List Fr} {Q : Post} {E E0 : TEnv} {h h' : Heap} {op : AOp} {hf hf2 : Bool} {v : PV} {r l : List AOper} {d d2 t : Nat} {f : Operand} {args : List Operand} {w b : Bool}

/-! Returns -/
/-! Steps told in one -/
/-! A run of operations under a condition -/
/-- What is told when operations are left out. -/
def skipE : Nat → TEnv → List AOper → Option (TEnv × List AOper)
  | 0, E, l => some (E, l)
  | n + 1, E, ⟨some d, op, some (t, w), hf⟩ :: r => match look t E with
    | some (.sc (.bool b)) => if b = w then none else skipE n ((d, .tup []) :: E) r
    | some (.tup []) => skipE n ((d, .tup []) :: E) r
    | _ => none
  | _, _, _ => none
end
end Go.Pb
