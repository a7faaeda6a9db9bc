/-
  Plain library.
-/
import Derived.Test.YtpdimhpjehfjeaaPbC
import Derived.Sort.Grow
import Derived.Test.YtpdimhpjehfjeaaPbK
/-
  Plain library, part 42: parts of an own slice, what is cleared and cut off, and calls that turn one row of own memory.
-/
set_option linter.unusedVariables false
set_option linter.unusedSimpArgs false
namespace Go.Pb
open Go Go.RowKit
section
variable {P : Program} {S : List Fr} {Q : Post} {E : TEnv} {h : Heap} {hf : Bool} {L : List Ent} {r : List AOper} {ty : TypeId} {sz : Nat}
/-- A part of an own slice. -/
theorem ov_sliceO {x : Operand} {lo hi : Option Operand} {a b : Int} {tt : TypeId} {id ver off n : Nat} (ex : evE E x = some (.os id ver off n)) (ha : Bnd E 0 lo a) (hb : Bnd E n hi b) (h0 : 0 ≤ a) (h1 : a < b) (h2 : b ≤ (n : Int)) (hs : 0 < sz) :
    OV P (.slice tt sz x lo hi none) hf E h (.os id ver (off + a.toNat * sz) (b.toNat - a.toNat)) := ⟨rfl, fun T hT => by
  have e1 : boundF T 0 lo = some a.toNat := ha.eq hT h0
  have e2 : boundF T n hi = some b.toNat := hb.eq hT (by omega)
  simp only [opQ, evE_ok hT ex, e1, e2, boundM]
  rw [if_pos ⟨by omega, by omega, hs, rfl⟩, if_neg (by omega)]⟩
/-- Of an own block less is told. -/
theorem RelP.cut {w0 : World} {F0 : Nat → Prop} {x : Cx} (R : RelP P w0 F0 h x) {id ver m : Nat} {t : TypeId} {cs : List PV} (hb : h.bl[id]? = some (.cells ver t true cs)) : RelP P w0 F0 (hput h id (.cells ver t true (cs.take m))) x := by
  have hset : ∀ (k : Nat) blk, (h.bl.set id (.cells ver t true (cs.take m)))[k]? = some blk → ∃ blk', h.bl[k]? = some blk' ∧ blk'.ver = blk.ver ∧ (blk = blk' ∨ (k = id ∧ blk = .cells ver t true (cs.take m))) := fun k blk hk => by
    rcases bl_set k blk hk with ⟨rfl, rfl⟩ | ⟨hne, hk'⟩
    · exact ⟨_, hb, rfl, .inr ⟨rfl, rfl⟩⟩
    · exact ⟨blk, hk', rfl, .inl rfl⟩
  refine ⟨R.below, R.f0, R.fsub, R.fnew, R.own, R.fresh, fun id1 id2 b1 b2 b h1 h2 h3 h4 => ?_, fun k blk hk => ?_⟩
  · obtain ⟨c1, e1, v1, _⟩ := hset id1 b1 h1
    obtain ⟨c2, e2, v2, _⟩ := hset id2 b2 h2
    exact R.inj id1 id2 c1 c2 b e1 e2 (by rw [v1]; exact h3) (by rw [v2]; exact h4)
  · obtain ⟨c1, e1, v1, hc⟩ := hset k blk hk
    rcases hc with rfl | ⟨rfl, rfl⟩
    · exact R.hr k _ e1
    · intro b hj
      obtain ⟨⟨cur, h5, h6, h7⟩, h8⟩ := R.hr k _ hb b hj
      refine ⟨⟨cur, h5, by simp; omega, ?_⟩, h8⟩
      have := VRL_take m h7
      rw [List.take_take] at this
      rw [List.length_take]
      exact this
theorem rowCells_take : ∀ {es cs : List PV}, (∀ y ∈ es, cnt y = some sz) → rowCells es = some cs → ∀ k, rowCells (es.take k) = some (cs.take (k * sz))
  | es, cs, _, _, 0 => by simp [rowCells]
  | [], cs, hc, hr, k + 1 => by
    simp only [rowCells, Option.some.injEq] at hr
    subst hr
    simp [rowCells]
  | e :: es, cs, hc, hr, k + 1 => by
    obtain ⟨a, h1, h2⟩ := cells_of_cnt (hc e (by simp))
    obtain ⟨b, h3, h4⟩ := rowCells_ex (es := es) (sz := sz) fun x hx => hc x (by simp [hx])
    simp only [rowCells, h1, h3, Option.some.injEq] at hr
    subst hr
    have ih := rowCells_take (fun x hx => hc x (by simp [hx])) h3 k
    simp only [List.take_succ_cons, rowCells, h1, ih, Option.some.injEq]
    rw [show (k + 1) * sz = a.length + k * sz by rw [Nat.succ_mul]; omega, List.take_append, List.take_of_length_le (l := a) (i := a.length + k * sz) (Nat.le_add_right _ _)]
    simp
/-- What is cleared behind a part is cut off. -/
theorem rs_clrT {k : Nat} {id ver n kk : Nat} {es : List PV} {z : Value} {x : Operand} (M : Mem h L) (hk : L[k]? = some ⟨.os id ver 0 n, ty, sz, es⟩) (ex : evE E x = some (.os id ver (0 + kk * sz) (n - kk))) (hlt : kk < n) (hz : z.cells.size = sz)
    (K : ∀ h', Mem h' (L.set k ⟨.os id ver 0 kk, ty, sz, es.take kk⟩) → RS P r S Q E h') : RS P (⟨none, .clr sz z x, none, hf⟩ :: r) S Q E h := by
  obtain ⟨h1, hn, cs, h2, h3⟩ := M.atF hk
  obtain ⟨cs', h4, h5⟩ := rowCells_ex h1
  rw [h2] at h4
  simp only [Option.some.injEq] at h4
  subst h4
  have hrl : (repCells (n - kk) (z.cells.toList.map PV.sc)).length = (n - kk) * sz := by
    unfold repCells
    rw [flatten_length (sz := sz) _ (fun p hp => by rw [List.eq_of_mem_replicate hp]; simpa using hz)]
    simp
  have hmul : kk * sz + (n - kk) * sz = n * sz := by rw [← Nat.add_mul]; congr 1; omega
  have hcl : cs.length = n * sz := by rw [h5, hn]
  intro T hT
  refine ⟨T, h, Wk.refl T h, true, rfl, fun _ => .inl ?_, fun e => by cases e⟩
  have hq : opL T h (.clr sz z x) = some (.tup [], hput h id (.cells ver ty true (spl cs (0 + kk * sz) (repCells (n - kk) (z.cells.toList.map PV.sc))))) := by
    have hb : h.bl[id]? = some (.cells ver ty true cs) := h3
    simp only [opL, evE_ok hT ex, hb]
    rw [if_pos ⟨trivial, by omega, by omega⟩]
    rfl
  show OpD P (.clr sz z x) hf T h _
  unfold OpD
  show ∃ r h', opL T h (.clr sz z x) = some (r, h') ∧ _
  refine ⟨_, _, hq, ?_⟩
  have htk : (spl cs (0 + kk * sz) (repCells (n - kk) (z.cells.toList.map PV.sc))).take (kk * sz) = cs.take (kk * sz) := by
    unfold spl
    rw [Nat.zero_add, List.take_append_of_le_length (by simp; omega), List.take_take, Nat.min_self]
  have hlt2 := blk_lt h3
  have hb2 : (hput h id (.cells ver ty true (spl cs (0 + kk * sz) (repCells (n - kk) (z.cells.toList.map PV.sc))))).bl[id]? = some (.cells ver ty true (spl cs (0 + kk * sz) (repCells (n - kk) (z.cells.toList.map PV.sc)))) := blk_put h id _ hlt2
  have hM : Mem (hput (hput h id (.cells ver ty true (spl cs (0 + kk * sz) (repCells (n - kk) (z.cells.toList.map PV.sc))))) id (.cells ver ty true (cs.take (kk * sz)))) (L.set k ⟨.os id ver 0 kk, ty, sz, es.take kk⟩) := by
    refine M.upd hk ⟨fun x hx => h1 x (List.take_subset _ _ hx), by simp; omega, _, ?_, blk_put _ _ _ (by simpa [hput, hlen] using hlt2)⟩ (fun i hi => .inl hi) fun i hi hne => ?_
    · exact rowCells_take h1 h2 kk
    · have hne' : ¬ id = i := fun e => hne (by simp [idOf, e])
      rw [blk_put_ne _ _ _ _ hne', blk_put_ne _ _ _ _ hne']
  refine runS_wk (T' := T) ?_ (K _ hM T hT)
  intro w0 F0 n' y ac R hTm
  refine ⟨y, rfl, Ext.refl y, ?_, hTm⟩
  have := R.cut (m := kk * sz) hb2
  rwa [htk] at this
/-! Compact, as a plain program -/
def cpF {α : Type} [Inhabited α] [DecidableEq α] (l : List α) : Nat → List α
  | 0 => []
  | m + 1 => cpF l m ++ (if m = 0 ∨ ix l (m : Int) ≠ ix l ((m : Int) - 1) then [ix l (m : Int)] else [])
def cpt {α : Type} [Inhabited α] [DecidableEq α] (l : List α) : List α := cpF l l.length
theorem cpF_len {α : Type} [Inhabited α] [DecidableEq α] (l : List α) : ∀ m, (cpF l m).length ≤ m
  | 0 => by simp [cpF]
  | m + 1 => by
    have := cpF_len l m
    rw [cpF, List.length_append]
    split <;> simp <;> omega
theorem cpF_new {α : Type} [Inhabited α] [DecidableEq α] {l : List α} {m : Nat} (h : m = 0 ∨ ix l (m : Int) ≠ ix l ((m : Int) - 1)) : cpF l (m + 1) = cpF l m ++ [ix l (m : Int)] := by rw [cpF, if_pos h]
theorem cpF_old {α : Type} [Inhabited α] [DecidableEq α] {l : List α} {m : Nat} (h0 : 0 < m) (h : ix l (m : Int) = ix l ((m : Int) - 1)) : cpF l (m + 1) = cpF l m := by
  rw [cpF, if_neg (by simp [h]; omega), List.append_nil]
theorem take_ix {α : Type} [Inhabited α] {l : List α} {m : Nat} (h : m < l.length) : l.take (m + 1) = l.take m ++ [ix l (m : Int)] := by
  rw [ix_nat h, List.take_add_one, List.getElem?_eq_getElem h]
  rfl
theorem cpt_small {α : Type} [Inhabited α] [DecidableEq α] {l : List α} (h : l.length < 2) : cpt l = l := by
  unfold cpt
  match l, h with
  | [], _ => rfl
  | [a], _ => simp [cpF, ix]
theorem osl_len {id ver off n : Nat} {t e : TypeId} (ht : P.underlying t = some (.slice e)) (ty : TypeId) : biF P .len [t].toArray ty [.os id ver off n] = some (vi (n : Int)) := by
  simp [biF, toVs, toV, ht, vi]
end
end Go.Pb

/-
  Plain library, part 43: calls of the kit's own contracts that lay one row of own memory anew.
-/
set_option linter.unusedVariables false
set_option linter.unusedSimpArgs false
namespace Go.Pb
open Go Go.RowKit
section
variable {P : Program} {h : Heap} {ty : TypeId} {sz : Nat}
theorem VRL_sc_eq {x : Cx} : ∀ {us l : List Value}, VRL P x (us.map .sc) l → l = us
  | [], [], _ => rfl
  | [], _ :: _, h => by simp [VRL] at h
  | _ :: _, [], h => by simp [VRL] at h
  | u :: us, v :: l, h => by
    simp only [List.map_cons, VRL, VRC, List.cons.injEq, and_true] at h
    rw [h.2.1.1, VRL_sc_eq h.2.2]
theorem holds_flat {w : World} {b : Nat} {cur : Array Value} {us : List Value} (hc : w.heap[b]? = some (.cells cur ty (0, 0))) (hu : cur.toList.take us.length = us) : Go.Sort.Holds (id : Value → Value) w b 0 us.toArray := by
  intro j hj
  have hj' : j < us.length := by simpa using hj
  have hg : cur.toList[j]? = some us[j] := by
    have := congrArg (fun l => l[j]?) hu
    simp only [List.getElem?_take, hj', if_true] at this
    rw [this, List.getElem?_eq_getElem hj']
  constructor
  · simp only [World.cell?, hc, Option.isSome_none, Bool.false_eq_true, if_false, Nat.zero_add, id]
    rw [← Array.getElem?_toList, hg]
    simp [hj']
  · simp [World.frozen?, hc]
theorem putRow_flat {w : World} {b : Nat} {cur : Array Value} {us : List Value} (hc : w.heap[b]? = some (.cells cur ty (0, 0))) (hl : us.length ≤ cur.size) : Go.Sort.putRow (id : Value → Value) w b 0 us.toArray = w.setRow b (us ++ cur.toList.drop us.length).toArray := by
  have hcut : Go.Sort.putCells (id : Value → Value) 0 us.toArray cur = (us ++ cur.toList.drop us.length).toArray := by
    apply Array.ext'
    apply List.ext_getElem
    · simp [Go.Sort.putCells]; omega
    · intro j h1 h2
      simp only [Go.Sort.putCells, Array.toList_mapIdx, List.getElem_mapIdx, Nat.zero_le, true_and, Nat.zero_add, List.size_toArray, Nat.sub_zero, id]
      split
      · rename_i hj
        simp only [List.getElem_append_left hj]
        simp [hj]
      · rename_i hj
        rw [List.getElem_append_right (by omega), List.getElem_drop]
        congr 1
        omega
  unfold Go.Sort.putRow Go.Sort.mapBlock World.setRow
  congr 1
  apply Array.ext_getElem?
  intro k
  simp only [Array.getElem?_modify]
  by_cases hk : b = k
  · subst hk
    simp only [if_true, hc, Option.map_some, Go.Sort.onCells, hcut]
  · simp [hk]
/-- A call that lays a row of own cells anew, and no more. -/
theorem fnX_row {g : FuncId} (he : Enters P g) {id ver n : Nat} {R : List Ent} {es es' : List PV} {us us' : List Value} {rest : List PV} {crest : List Value} (M : Mem h (⟨.os id ver 0 n, ty, sz, es⟩ :: R)) (e1 : rowCells es = some (us.map .sc)) (e2 : rowCells es' = some (us'.map .sc)) (hc' : ∀ x ∈ es', cnt x = some sz) (hlen : us'.length = us.length) (hes : es'.length = es.length) (h1 : ∀ u ∈ us', u.oneCell' = true)
    (hr : ∀ x cargs, VRV P x rest cargs → cargs = crest)
    (H : ∀ (w : World) (b cap : Nat), b < w.heap.size → Go.Sort.Holds (_root_.id : Value → Value) w b 0 us.toArray → Calls P g (.slice (some ⟨b, 0, none⟩) n cap :: crest).toArray w fun e w' => e = .returned (.tuple #[]) ∧ ∃ q os, w' = Go.Sort.grow (Go.Sort.putRow (_root_.id : Value → Value) (Go.Sort.ahead w q) b 0 us'.toArray) os) :
    ∃ h2, FnX P g (.os id ver 0 n :: rest) h (.tup []) h2 ∧ Mem h2 (⟨.os id ver 0 n, ty, sz, es'⟩ :: R) := by
  obtain ⟨hcn, hn, cs, hcs, hb⟩ := M.atF (k := 0) rfl
  rw [e1] at hcs
  simp only [Option.some.injEq] at hcs
  subst hcs
  refine ⟨hput h id (.cells ver ty true (us'.map .sc)), ⟨he, fun w0 F0 x cargs R0 hv => ?_⟩, ?_⟩
  · cases cargs with
    | nil => simp [VRV] at hv
    | cons u cr =>
      simp only [VRV] at hv
      obtain ⟨hu, hrest⟩ := hv
      have hcr := hr x cr hrest
      subst hcr
      simp only [AsVal, PV.isAgg, VRC, List.cons.injEq, and_true] at hu
      obtain ⟨b, cap, hj, rfl, -, -, -⟩ := hu
      obtain ⟨cur, hcur, hcl, hvr⟩ := own_cells R0 hb hj
      have htk := VRL_sc_eq hvr
      simp only [List.length_map] at hcl htk
      have hblt : b < x.w.heap.size := (R0.own id ver b hj).2
      refine (H x.w b cap hblt (holds_flat hcur htk)).mono ?_
      rintro e w' ⟨rfl, q, os, hw⟩
      have hw2 : w' = Go.Sort.grow (Go.Sort.ahead (x.w.setRow b (us' ++ cur.toList.drop us'.length).toArray) q) os := by
        rw [hw, Go.Sort.putRow_ahead, putRow_flat hcur (by omega)]
      have hvl : VRL P x (us'.map .sc) ((us' ++ cur.toList.drop us'.length).toArray.toList.take (us'.map PV.sc).length) := by
        simp only [List.length_map, List.take_left']
        exact VRL_sc P x us' (by rw [List.all_eq_true]; exact h1)
      obtain ⟨R1, E1⟩ := R0.setOwn (us := (us' ++ cur.toList.drop us'.length).toArray) hb hj hcur (by simp; omega) (by simp) hvl (.inl ⟨rfl, rfl⟩) (bl' := h.bl.set id (.cells ver ty true (us'.map .sc))) bl_set
      generalize hy1 : (⟨x.w.setRow b (us' ++ cur.toList.drop us'.length).toArray, x.F, updJ x.J id ver b⟩ : Cx) = y1 at R1 E1
      have hyw : y1.w = x.w.setRow b (us' ++ cur.toList.drop us'.length).toArray := by rw [← hy1]
      have G : Grow y1 ⟨w', y1.F, y1.J⟩ := by
        refine ⟨⟨⟨?_, ?_, ?_, ?_, fun k hk => ?_⟩, ?_⟩, rfl, fun _ h => h, fun _ h => .inl h⟩
        · rw [hw2, hyw]; rfl
        · rw [hw2, hyw]; rfl
        · rw [hw2, hyw]; rfl
        · rw [hw2, hyw]; simp [Go.Sort.grow, Go.Sort.ahead]
        · rw [hw2, hyw]
          rw [hyw] at hk
          simp only [Go.Sort.grow, Go.Sort.ahead]
          rw [Array.getElem?_append_left hk]
        · rw [hw2, hyw]; exact dle_of (Nat.le_add_right _ _)
      exact ⟨.tuple #[], .tup [], _, ⟨w', y1.F, y1.J⟩, rfl, rfl, ⟨rfl, rfl⟩, R1.grow G, E1.trans (R1.ext_of_grow G), ⟨[], rfl, by simp [VRV]⟩⟩
  · refine M.upd (k := 0) rfl ⟨hc', by rw [hn, hes], _, e2, blk_put _ _ _ (blk_lt hb)⟩ (fun i hi => .inl hi) fun i hi hne => ?_
    exact blk_put_ne _ _ _ _ fun e => hne (by simp [idOf, e])
/-- Called on a slice without elements. -/
theorem fnX_none {g : FuncId} (he : Enters P g) {R : List Ent} {a : PV} {rest : List PV} {crest : List Value} (M : Mem h (⟨a, ty, sz, []⟩ :: R)) (ne : isL a = true) (hr : ∀ x cargs, VRV P x rest cargs → cargs = crest)
    (H : ∀ (w : World) (p : Option Addr) (cap : Nat), Calls P g (.slice p 0 cap :: crest).toArray w fun e w' => e = .returned (.tuple #[]) ∧ w' = w) : FnX P g (a :: rest) h (.tup []) h := by
  have HE := M.at (k := 0) rfl
  refine ⟨he, fun w0 F0 x cargs R0 hv => ?_⟩
  cases cargs with
  | nil => simp [VRV] at hv
  | cons u cr =>
    simp only [VRV] at hv
    obtain ⟨hu, hrest⟩ := hv
    have hcr := hr x cr hrest
    subst hcr
    have key : ∃ p cap, u = .slice p 0 cap := by
      have H2 := HE.2
      unfold EntV at H2
      split at H2
      · rename_i hv'; simp only at hv'; rw [hv'] at ne; cases ne
      · rename_i id ver n hv'
        simp only at hv' H2
        subst hv'
        obtain ⟨hn, _⟩ := H2
        have : n = 0 := hn
        subst this
        simp only [AsVal, PV.isAgg, VRC, List.cons.injEq, and_true] at hu
        obtain ⟨b, cap, -, rfl, -⟩ := hu
        exact ⟨_, _, rfl⟩
      · rename_i ad hv'
        simp only at hv'
        subst hv'
        exact ⟨_, _, sc_eq hu⟩
      · rename_i es' hv'
        simp only at hv' H2
        subst hv' H2
        simp only [AsVal, PV.isAgg, VRC, List.cons.injEq, and_true, List.length_nil] at hu
        obtain ⟨b, o, cap, sz, rfl, -⟩ := hu
        exact ⟨_, _, rfl⟩
      · rename_i hv'; simp only at hv'; rw [hv'] at ne; cases ne
      · exact H2.elim
    obtain ⟨p, cap, rfl⟩ := key
    refine (H x.w p cap).mono ?_
    rintro e w' ⟨rfl, rfl⟩
    exact ⟨.tuple #[], .tup [], h, x, rfl, rfl, ⟨rfl, rfl⟩, R0, Ext.refl x, ⟨[], rfl, by simp [VRV]⟩⟩
theorem rowCells_map {α : Type} {mk : α → PV} {enc : α → List Value} (hm : ∀ x, (mk x).cellsOf = some ((enc x).map .sc)) : ∀ (l : List α), rowCells (l.map mk) = some ((l.flatMap enc).map .sc)
  | [] => rfl
  | x :: l => by simp only [List.map_cons, rowCells, hm, rowCells_map hm l, List.flatMap_cons, List.map_append]
theorem all2_map {α : Type} {R : α → PV → Prop} {mk : α → PV} (hR : ∀ x v, R x v → v = mk x) : ∀ {l : List α} {es : List PV}, All2 R l es → es = l.map mk
  | [], [], _ => rfl
  | [], _ :: _, h => by simp [All2] at h
  | _ :: _, [], h => by simp [All2] at h
  | x :: l, e :: es, h => by rw [List.map_cons, hR x e h.1, ← all2_map hR h.2]
theorem map_all2 {α : Type} {R : α → PV → Prop} {mk : α → PV} (hR : ∀ x, R x (mk x)) : ∀ (l : List α), All2 R l (l.map mk)
  | [] => trivial
  | x :: l => ⟨hR x, map_all2 hR l⟩
theorem flat_len {α : Type} {enc : α → List Value} {k : Nat} (hk : ∀ x, (enc x).length = k) : ∀ (l : List α), (l.flatMap enc).length = l.length * k
  | [] => by simp
  | x :: l => by rw [List.flatMap_cons, List.length_append, hk, flat_len hk l, List.length_cons, Nat.succ_mul]; omega
/-- A sort in place. -/
theorem sort_X {α : Type} {t : TR α} {mk : α → PV} {enc : α → List Value} {g : FuncId} (he : Enters P g) (hR : ∀ x v, t.R x v → v = mk x) (hR2 : ∀ x, t.R x (mk x)) (hm : ∀ x, (mk x).cellsOf = some ((enc x).map .sc)) (hk : ∀ x, (enc x).length = t.sz) (h1 : ∀ x, ∀ u ∈ enc x, u.oneCell' = true) {l l' : List α} (hll : l'.length = l.length)
    {a : PV} {es : List PV} {R : List Ent} {rest : List PV} {crest : List Value} (hr : ∀ x cargs, VRV P x rest cargs → cargs = crest) (q : All2 t.R l es) (ne : isL a = true) (wi : Wri a es) (M : Mem h (⟨a, ty, t.sz, es⟩ :: R))
    (H0 : l = [] → ∀ (w : World) (p : Option Addr) (cap : Nat), Calls P g (.slice p 0 cap :: crest).toArray w fun e w' => e = .returned (.tuple #[]) ∧ w' = w)
    (H : ∀ (w : World) (b cap : Nat), b < w.heap.size → Go.Sort.Holds (_root_.id : Value → Value) w b 0 (l.flatMap enc).toArray → Calls P g (.slice (some ⟨b, 0, none⟩) l.length cap :: crest).toArray w fun e w' => e = .returned (.tuple #[]) ∧ ∃ q os, w' = Go.Sort.grow (Go.Sort.putRow (_root_.id : Value → Value) (Go.Sort.ahead w q) b 0 (l'.flatMap enc).toArray) os) :
    ∃ r h2, FnX P g (a :: rest) h r h2 ∧ ∃ es', Mem h2 (⟨a, ty, t.sz, es'⟩ :: R) ∧ All2 t.R l' es' ∧ Wri a es' ∧ r = .tup [] := by
  have hes := all2_map hR q
  rcases wi with rfl | ⟨id, ver, n, rfl⟩
  · have hl0 : l = [] := by
      cases l with
      | nil => rfl
      | cons _ _ => simp at hes
    have hl0' : l' = [] := by
      cases l' with
      | nil => rfl
      | cons _ _ => rw [hl0] at hll; simp at hll
    subst hl0'
    exact ⟨_, h, fnX_none he M ne hr (H0 hl0), [], M, trivial, .inl rfl, rfl⟩
  · have hn : n = l.length := by rw [mem_osn M (k := 0) rfl, All2.length_eq q]
    subst hn
    obtain ⟨h2, X, M2⟩ := fnX_row (es' := l'.map mk) (us := l.flatMap enc) (us' := l'.flatMap enc) he M (by rw [hes]; exact rowCells_map hm l) (rowCells_map hm l') (fun x hx => by
        obtain ⟨y, _, rfl⟩ := List.mem_map.1 hx
        exact t.cnt (hR2 y)) (by rw [flat_len hk, flat_len hk, hll]) (by rw [List.length_map, hll, hes, List.length_map]) (fun u hu => by
        obtain ⟨y, _, hy⟩ := List.mem_flatMap.1 hu
        exact h1 y u hy) hr H
    exact ⟨_, h2, X, _, M2, map_all2 hR2 l', .inr ⟨_, _, _, rfl⟩, rfl⟩
/-! Numbers -/
theorem flat_int (l : List Int) : l.flatMap (fun z => [Value.int .i64 z]) = l.map (Value.int .i64) := by
  induction l with
  | nil => rfl
  | cons x l ih => rw [List.flatMap_cons, ih]; rfl
theorem holds_int {w : World} {b : Nat} {l : List Int} (H : Go.Sort.Holds (_root_.id : Value → Value) w b 0 (l.map (Value.int .i64)).toArray) : Go.Sort.Holds (Value.int .i64) w b 0 l.toArray := fun j hj => by
  have hj' : j < l.length := by simpa using hj
  have := H j (by simpa using hj')
  simpa [hj'] using this
theorem putRow_int {w : World} {b : Nat} {l : List Int} : Go.Sort.putRow (Value.int .i64) w b 0 l.toArray = Go.Sort.putRow (_root_.id : Value → Value) w b 0 (l.map (Value.int .i64)).toArray := by
  unfold Go.Sort.putRow
  refine Go.Sort.mapBlock_congr _ _ _ _ fun c _ _ _ => ?_
  unfold Go.Sort.putCells
  apply Array.ext
  · simp
  · intro j h1 h2
    simp only [Array.getElem_mapIdx, List.size_toArray, List.length_map, Nat.zero_le, true_and, Nat.zero_add, Nat.sub_zero, id]
    split
    · rename_i hj; simp [hj]
    · rfl
theorem sort_int_X {g : FuncId} (he : Enters P g)
    (H : ∀ (blk off cap : Nat) (zs : List Int) (w : World), Go.Sort.Holds (Value.int .i64) w blk off zs.toArray → blk < w.heap.size → zs.length < 4611686018427387904 → Calls P g #[.slice (some ⟨blk, off, none⟩) zs.length cap] w fun e w' => e = .returned (.tuple #[]) ∧ ∃ n os, w' = Go.Sort.grow (Go.Sort.putRow (Value.int .i64) (Go.Sort.ahead w n) blk off (zs.mergeSort fun x y => decide (x ≤ y)).toArray) os)
    (H0 : ∀ (p : Option Addr) (cap : Nat) (w : World), Calls P g #[.slice p 0 cap] w fun e w' => e = .returned (.tuple #[]) ∧ w' = w)
    {l : List Int} {a : PV} {es : List PV} {R : List Ent} (q : All2 tI.R l es) (ne : isL a = true) (hl : l.length ≤ 1000000) (wi : Wri a es) (M : Mem h (⟨a, ty, 1, es⟩ :: R)) :
    ∃ r h2, FnX P g [a] h r h2 ∧ ∃ es', Mem h2 (⟨a, ty, 1, es'⟩ :: R) ∧ All2 tI.R (l.mergeSort fun x y => decide (x ≤ y)) es' ∧ Wri a es' ∧ r = .tup [] := by
  refine sort_X (t := tI) (mk := vi) (enc := fun z => [Value.int .i64 z]) (crest := []) he (fun x v h => h) (fun x => rfl) (fun x => rfl) (fun x => rfl) (fun x u hu => by simp at hu; subst hu; rfl) (List.length_mergeSort _) (fun x cargs hv => by cases cargs with
    | nil => rfl
    | cons _ _ => simp [VRV] at hv) q ne wi M (fun _ w p cap => H0 p cap w) fun w b cap hb hh => ?_
  rw [flat_int] at hh
  refine (H b 0 cap l w (holds_int hh) hb (by omega)).mono ?_
  rintro e w' ⟨rfl, n, os, rfl⟩
  exact ⟨rfl, n, os, by rw [flat_int, putRow_int]⟩
end
end Go.Pb

/-
  Plain library, part 45: strictly ascending lists.
-/
set_option linter.unusedVariables false
set_option linter.unusedSimpArgs false
set_option linter.unusedSectionVars false
namespace Go.Pb
open Go Go.RowKit
section
variable {α : Type} [Inhabited α] [DecidableEq α] {lt : α → α → Bool}
structure STO {α : Type} (lt : α → α → Bool) : Prop where
  irr : ∀ x, lt x x = false
  trans : ∀ x y z, lt x y = true → lt y z = true → lt x z = true
  total : ∀ x y, lt x y = false → lt y x = false → x = y
theorem STO.asymm (h : STO lt) {x y : α} (a : lt x y = true) : lt y x = false := by
  cases b : lt y x with
  | false => rfl
  | true => have := h.trans x y x a b; rw [h.irr] at this; cases this
/-- Put into a strictly ascending list. -/
def insS {α : Type} [DecidableEq α] (lt : α → α → Bool) (x : α) : List α → List α
  | [] => [x]
  | y :: l => if lt y x = true then y :: insS lt x l else if y = x then y :: l else x :: y :: l
theorem insS_len (lt : α → α → Bool) (x : α) : ∀ (l : List α), (insS lt x l).length ≤ l.length + 1
  | [] => by simp [insS]
  | y :: l => by
    have := insS_len lt x l
    rw [insS]
    split
    · simp; omega
    · split <;> simp
theorem mem_insS (x y : α) : ∀ (l : List α), y ∈ insS lt x l ↔ y = x ∨ y ∈ l
  | [] => by simp [insS]
  | z :: l => by
    rw [insS]
    split
    · rw [List.mem_cons, mem_insS x y l, List.mem_cons]
      constructor
      · rintro (h | h | h)
        · exact .inr (.inl h)
        · exact .inl h
        · exact .inr (.inr h)
      · rintro (h | h | h)
        · exact .inr (.inl h)
        · exact .inl h
        · exact .inr (.inr h)
    · split
      · rename_i h
        subst h
        simp
      · simp
theorem insS_pw (h : STO lt) (x : α) : ∀ (l : List α), l.Pairwise (fun a b => lt a b = true) → (insS lt x l).Pairwise (fun a b => lt a b = true)
  | [], _ => by simp [insS]
  | z :: l, hp => by
    rw [List.pairwise_cons] at hp
    rw [insS]
    split
    · rename_i h1
      rw [List.pairwise_cons]
      refine ⟨fun y hy => ?_, insS_pw h x l hp.2⟩
      rcases (mem_insS x y l).1 hy with rfl | hy
      · exact h1
      · exact hp.1 y hy
    · rename_i h1
      split
      · exact List.pairwise_cons.2 hp
      · rename_i h2
        have hxz : lt x z = true := by
          cases e : lt x z with
          | true => rfl
          | false => exact absurd (h.total z x (by simpa using h1) e) h2
        refine List.pairwise_cons.2 ⟨fun y hy => ?_, List.pairwise_cons.2 hp⟩
        rcases List.mem_cons.1 hy with rfl | hy
        · exact hxz
        · exact h.trans _ _ _ hxz (hp.1 y hy)
/-- Two strictly ascending lists with the same elements are one. -/
theorem strict_ext (h : STO lt) : ∀ {l k : List α}, l.Pairwise (fun a b => lt a b = true) → k.Pairwise (fun a b => lt a b = true) → (∀ y, y ∈ l ↔ y ∈ k) → l = k
  | [], [], _, _, _ => rfl
  | [], b :: k, _, _, he => by have := (he b).2 List.mem_cons_self; cases this
  | a :: l, [], _, _, he => by have := (he a).1 List.mem_cons_self; cases this
  | a :: l, b :: k, hl, hk, he => by
    rw [List.pairwise_cons] at hl hk
    have hab : a = b := by
      rcases List.mem_cons.1 ((he a).1 List.mem_cons_self) with e | ha
      · exact e
      · rcases List.mem_cons.1 ((he b).2 List.mem_cons_self) with e | hb
        · exact e.symm
        · have h1 := hk.1 a ha
          rw [h.asymm (hl.1 b hb)] at h1
          cases h1
    subst hab
    have ht : l = k := strict_ext h hl.2 hk.2 fun y => by
      constructor
      · intro hy
        rcases List.mem_cons.1 ((he y).1 (List.mem_cons_of_mem _ hy)) with rfl | h1
        · have := hl.1 _ hy; rw [h.irr] at this; cases this
        · exact h1
      · intro hy
        rcases List.mem_cons.1 ((he y).2 (List.mem_cons_of_mem _ hy)) with rfl | h1
        · have := hk.1 _ hy; rw [h.irr] at this; cases this
        · exact h1
    rw [ht]
theorem cpF_mem {s : List α} : ∀ (m : Nat), m ≤ s.length → ∀ y, y ∈ cpF s m ↔ y ∈ s.take m
  | 0, _, y => by simp [cpF]
  | m + 1, hm, y => by
    have ih := cpF_mem (s := s) m (by omega) y
    rw [take_ix (by omega), List.mem_append, List.mem_singleton, ← ih]
    by_cases hc : m = 0 ∨ ix s (m : Int) ≠ ix s ((m : Int) - 1)
    · rw [cpF_new hc, List.mem_append, List.mem_singleton]
    · rw [cpF_old (by omega) (by
        by_cases he : ix s (m : Int) = ix s ((m : Int) - 1)
        · exact he
        · exact absurd (.inr he) hc)]
      constructor
      · exact .inl
      · rintro (h | rfl)
        · exact h
        · rw [ih]
          have hm0 : m ≠ 0 := fun e => hc (.inl e)
          have he : ix s (m : Int) = ix s ((m : Int) - 1) := by
            by_cases he : ix s (m : Int) = ix s ((m : Int) - 1)
            · exact he
            · exact absurd (.inr he) hc
          rw [he, show ((m : Int) - 1) = ((m - 1 : Nat) : Int) by omega, ix_nat (l := s) (i := m - 1) (by omega)]
          rw [List.mem_take_iff_getElem]
          exact ⟨m - 1, (by omega : m - 1 < min m s.length), rfl⟩
theorem cpF_pw (h : STO lt) {s : List α} (hs : s.Pairwise (fun a b => lt b a = false)) : ∀ (m : Nat), m ≤ s.length → (cpF s m).Pairwise (fun a b => lt a b = true)
  | 0, _ => by simp [cpF]
  | m + 1, hm => by
    have ih := cpF_pw h hs m (by omega)
    by_cases hc : m = 0 ∨ ix s (m : Int) ≠ ix s ((m : Int) - 1)
    · rw [cpF_new hc, List.pairwise_append]
      refine ⟨ih, List.pairwise_singleton _ _, fun a ha b hb => ?_⟩
      rw [List.mem_singleton] at hb
      subst hb
      rw [cpF_mem m (by omega), List.mem_take_iff_getElem] at ha
      obtain ⟨j, hj, rfl⟩ := ha
      have hjm : j < m := by omega
      rw [List.pairwise_iff_getElem] at hs
      have h1 := hs j m (by omega) (by omega) hjm
      rw [ix_nat (by omega)]
      cases e : lt (s[j]'(by omega)) (s[m]'(by omega)) with
      | true => rfl
      | false =>
        exfalso
        have heq := h.total _ _ e h1
        rcases hc with hc | hc
        · omega
        · apply hc
          rw [show ((m : Int) - 1) = ((m - 1 : Nat) : Int) by omega, ix_nat (by omega), ix_nat (by omega)]
          by_cases hj1 : j = m - 1
          · subst hj1; exact heq.symm
          · have h2 := hs j (m - 1) (by omega) (by omega) (by omega)
            have h3 := hs (m - 1) m (by omega) (by omega) (by omega)
            rw [heq] at h2
            exact h.total _ _ h3 h2
    · rw [cpF_old (by omega) (by
        by_cases he : ix s (m : Int) = ix s ((m : Int) - 1)
        · exact he
        · exact absurd (.inr he) hc)]
      exact ih
theorem cpt_pw (h : STO lt) {s : List α} (hs : s.Pairwise (fun a b => lt b a = false)) : (cpt s).Pairwise (fun a b => lt a b = true) := cpF_pw h hs _ (Nat.le_refl _)
theorem cpt_mem {s : List α} (y : α) : y ∈ cpt s ↔ y ∈ s := by
  unfold cpt
  rw [cpF_mem _ (Nat.le_refl _), List.take_length]
theorem fold_pw (h : STO lt) : ∀ (l acc : List α), acc.Pairwise (fun a b => lt a b = true) → (l.foldl (fun acc x => insS lt x acc) acc).Pairwise (fun a b => lt a b = true)
  | [], acc, ha => ha
  | x :: l, acc, ha => fold_pw h l _ (insS_pw h x acc ha)
theorem fold_mem (y : α) : ∀ (l acc : List α), y ∈ l.foldl (fun acc x => insS lt x acc) acc ↔ y ∈ l ∨ y ∈ acc
  | [], acc => by simp
  | x :: l, acc => by
    rw [List.foldl_cons, fold_mem y l, mem_insS, List.mem_cons]
    constructor
    · rintro (h | h | h)
      · exact .inl (.inr h)
      · exact .inl (.inl h)
      · exact .inr h
    · rintro ((h | h) | h)
      · exact .inr (.inl h)
      · exact .inl h
      · exact .inr (.inr h)
theorem sort_pw (h : STO lt) (l : List α) : (l.mergeSort fun x y => !lt y x).Pairwise (fun a b => lt b a = false) := by
  have := List.pairwise_mergeSort (le := fun x y => !lt y x) (fun a b c h1 h2 => by
    simp only [Bool.not_eq_true'] at h1 h2 ⊢
    cases e : lt c a with
    | false => rfl
    | true =>
      cases e2 : lt b c with
      | true => rw [h.trans _ _ _ e2 e] at h1; cases h1
      | false => have := h.total _ _ e2 h2; subst this; rw [e] at h1; cases h1) (fun a b => by
    cases e : lt b a with
    | false => simp
    | true => simp [h.asymm e]) l
  exact this.imp fun {a b} hab => by simpa using hab
/-- Sorted and without duplicates: as put in one by one. -/
theorem cpt_sort (h : STO lt) (l : List α) : cpt (l.mergeSort fun x y => !lt y x) = l.foldl (fun acc x => insS lt x acc) [] := by
  refine strict_ext h (cpt_pw h (sort_pw h l)) (fold_pw h l [] .nil) fun y => ?_
  rw [cpt_mem, List.mem_mergeSort, fold_mem]
  simp
end
end Go.Pb

/-
  Plain library, part 44: short forms for the printed proofs; the code of a function reckoned from the program.
-/
set_option linter.unusedVariables false
set_option linter.unusedSimpArgs false
namespace Go.Pb
open Go Go.RowKit

theorem qa : (∀ a b : Bool, ((a || b) = true) = (a = true ∨ b = true)) ∧ (∀ a b : Bool, (a || b) = false ↔ a = false ∧ b = false) ∧ (∀ a b : Bool, ((a && b) = true) = (a = true ∧ b = true)) ∧ (∀ a b : Bool, (a && b) = false ↔ (a = true → b = false)) ∧ (∀ (p : Prop) [Decidable p], (decide p = true) = p) ∧ (∀ (p : Prop) [Decidable p], decide p = false ↔ ¬p) ∧ (∀ a : Bool, ((!a) = true) = (a = false)) ∧ (∀ a : Bool, ((!a) = false) = (a = true)) ∧ (∀ a : Bool, (¬a = true) = (a = false)) ∧ (∀ a : Bool, (¬a = false) = (a = true)) ∧ ((!true) = false) ∧ ((!false) = true) ∧ (∀ n : Nat, Int.ofNat n = (n : Int)) ∧ (∀ n : Nat, Int.negSucc n = -((n : Int) + 1)) :=
 ⟨Bool.or_eq_true, fun _ _ => Bool.or_eq_false_iff, Bool.and_eq_true, fun _ _ => Bool.and_eq_false_imp, fun _ _ => decide_eq_true_eq, fun _ _ => decide_eq_false_iff_not, Bool.not_eq_true', Bool.not_eq_false', Bool.not_eq_true, Bool.not_eq_false, rfl, rfl, fun _ => rfl, fun _ => Int.negSucc_eq _⟩
theorem qaD {α : Type} (a b : α) : (a ≠ b) = ¬a = b := ne_eq a b

/-- All that the second row tells, the first tells. -/
theorem sB {E : TEnv} : ∀ {E0 : TEnv}, E0.map (fun p => look p.1 E) = E0.map (fun p => some p.2) → SubE E E0
  | [], _ => sub_nil E
  | (d, v) :: r, h => by
    simp only [List.map_cons, List.cons.injEq] at h
    exact sub_cons h.1 (sB h.2)

/-! The code of a function, reckoned from the program -/
/-- The code of a function in our form. -/
def cO (P : Program) (own : List Tmp) (n : Nat) (f : Func) : AC := (compC P own n (f.body.getD .skip)).getD .skip
/-- The bodies of the loops, the outer before the inner. -/
def loops : AC → List AC
  | .seq a b => loops a ++ loops b
  | .cond _ a b => loops a ++ loops b
  | .block _ b => loops b
  | .scope b => loops b
  | .loop b => b :: loops b
  | _ => []
def lP (k : Nat) (c : AC) : AC := (loops c).getD k .skip
/-- What a term comes to, in full. -/
abbrev rdc (c w : AC) (h : c = w) : AC := w
theorem tX {P : Program} {f : FuncId} {own : List Tmp} {n np : Nat} {ac : AC} {rs : List (Tmp × Option (Nat × Bool))} {fn : Func} (e : Enters P f) (fo : P.follows .mixedOrders = true) (h : P.funcs[f]? = some fn)
    (hb : fn.body = some (fn.body.getD .skip)) (hn : fn.ntmps = n) (hp : np ≤ n) (hc : compC P own n (fn.body.getD .skip) = some ac) (hr : compRes P fn.results.toList = some rs) : FnText P f own n np ac rs :=
  ⟨e, fo, fn, _, h, hb, hn, hp, hc, hr⟩

section
variable {P : Program} {S : List Fr} {Q : Post} {E E0 : TEnv} {h h' : Heap} {op : AOp} {hf hf2 : Bool} {v : PV} {r l : List AOper} {d d2 t : Nat} {f : Operand} {args : List Operand} {w b : Bool}

theorem wC {c : AC} (k : RC P c S Q E0 h) (s : E0.map (fun p => look p.1 E) = E0.map (fun p => some p.2)) : RC P c S Q E h := rc_weak (sB s) k
theorem wP {id : Nat} (k : PX P id S Q E0 h) (s : E0.map (fun p => look p.1 E) = E0.map (fun p => some p.2)) : PX P id S Q E h := px_weak (sB s) k
theorem wD {l : List AOper} (k : RD P l S Q E0 h) (s : E0.map (fun p => look p.1 E) = E0.map (fun p => some p.2)) : RD P l S Q E h := rd_weak (sB s) k
theorem wN (k : PN P S Q E0 h) (s : E0.map (fun p => look p.1 E) = E0.map (fun p => some p.2)) : PN P S Q E h := pn_weak (sB s) k
/-- A branch. -/
theorem rc_br {α : Type} {c : Operand} {a b : AC} {v : Bool} {x y r : α} (hres : (if v = true then x else y) = r) (hc : evE E c = some (vb v)) (h1 : v = true → x = r → RC P a S Q E h) (h2 : v = false → y = r → RC P b S Q E h) : RC P (.cond c a b) S Q E h :=
  rc_cond hc (fun e => h1 e ((ite_t e).symm.trans hres)) (fun e => h2 e ((ite_f e).symm.trans hres))

/-- The contract of a function whose result is told by one data value. -/
theorem fnS {f : FuncId} {own : List Tmp} {n np : Nat} {ac : AC} {rs : List (Tmp × Option (Nat × Bool))} {args : List PV} {α : Type} {e : α} {v : PV} {R : α → PV → Prop} (X : FnText P f own n np ac rs)
    (hr : ∀ r, R e r → r = v) (hn : Nat.ble args.length np = true) (H : ∀ res, e = res → RC P ac [] (QR P rs (R res)) (argE 0 args) ⟨0, []⟩) : FnR P f args v := by
  obtain ⟨r, h1, h2⟩ := fnE X (Nat.le_of_ble_eq_true hn) (H e rfl)
  rw [← hr r h2]; exact h1
theorem fnT {f : FuncId} {own : List Tmp} {n np : Nat} {ac : AC} {rs : List (Tmp × Option (Nat × Bool))} {args : List PV} {α : Type} {e : α} {R : α → PV → Prop} (X : FnText P f own n np ac rs)
    (hn : Nat.ble args.length np = true) (H : ∀ res, e = res → RC P ac [] (QR P rs (R res)) (argE 0 args) ⟨0, []⟩) : ∃ r, FnR P f args r ∧ R e r := fnE X (Nat.le_of_ble_eq_true hn) (H e rfl)
theorem fnXX {f : FuncId} {own : List Tmp} {n np : Nat} {ac : AC} {rs : List (Tmp × Option (Nat × Bool))} {args : List PV} {α : Type} {e : α} {R : α → PV → Heap → Prop} (X : FnText P f own n np ac rs)
    (hn : Nat.ble args.length np = true) (H : ∀ res, e = res → RC P ac [] (retPost P rs (R res)) (argE 0 args) h) : ∃ r h', FnX P f args h r h' ∧ R e r h' := fnX X (Nat.le_of_ble_eq_true hn) (H e rfl)

theorem aL {α : Type} {R : α → PV → Prop} : All2 R [] [] := trivial
/-! Returns -/
theorem rR {α : Type} {t : Tmp} {R : α → PV → Prop} {e res : α} {v : PV} (hres : e = res) (hv : look t E = some v) (hc : closed v = true) (hr : R e v) : RC P .ret S (QR P [(t, none)] (R res)) E h := by
  subst hres; exact rc_retV (.tmp hv .nil) (deep_closed hc) hr
theorem rT {α : Type} {t t' : Tmp} {R : α → PV → Prop} {e res : α} {v v' : PV} (hres : e = res) (hv : look t E = some v) (hv' : look t' E = some v') (hc : closed v = true) (hc' : closed v' = true) (hr : R e (.tup [v, v'])) : RC P .ret S (QR P [(t, none), (t', none)] (R res)) E h := by
  subst hres; exact rc_retV (.tmp hv (.tmp hv' .nil)) (deep_closed (show closed (.tup _) = true from clL_cons hc (clL_cons hc' clL_nil))) hr

/-! Steps told in one -/
theorem sR {d : Bool} {al : List AOper} {b : AC} (k : RD P al (.seq b :: S) Q E h) : RC P (.seq (.region d al) b) S Q E h := rc_seq (rc_region k)
theorem nS {b : AC} (k : RC P b S Q E h) : RD P [] (.seq b :: S) Q E h := k
theorem nR {d : Bool} {al : List AOper} {b : AC} (k : RD P al (.seq b :: S) Q E h) : RD P [] (.seq (.seq (.region d al) b) :: S) Q E h := rd_nil (pn_seq (sR k))
theorem mV {x : Operand} {a : PV} (ex : evE E x = some a) (k : RD P r S Q ((d, a) :: E) h) : RD P (⟨some d, .move x, none, hf⟩ :: r) S Q E h := rd_op (ov_move ex) k
theorem mI {x : Operand} {n : Int} (ex : evE E x = some (vi n)) (k : RD P r S Q ((d, vi n) :: E) h) : RD P (⟨some d, .move x, none, hf⟩ :: r) S Q E h := rd_op (ov_move ex) k
theorem mB {x : Operand} {n : Bool} (ex : evE E x = some (vb n)) (k : RD P r S Q ((d, vb n) :: E) h) : RD P (⟨some d, .move x, none, hf⟩ :: r) S Q E h := rd_op (ov_move ex) k
theorem bN {op : BinOp} {t : TypeId} {x y : Operand} {a b v : PV} (hb : binF P op t x y a b = some v) (ex : evE E x = some a) (ey : evE E y = some b) (k : RD P r S Q ((d, v) :: E) h) : RD P (⟨some d, .bin op t x y, none, hf⟩ :: r) S Q E h := rd_op (ov_bin ex ey hb) k
theorem xT {x : Operand} {vs : List PV} {k : Nat} {v : PV} (ex : evE E x = some (.tup vs)) (hk : vs[k]? = some v) (K : RD P r S Q ((d, v) :: E) h) : RD P (⟨some d, .extract x k, none, hf⟩ :: r) S Q E h := rd_op (ov_extract ex hk) K
theorem fA {x : Operand} {a w : PV} {off sz : Nat} {agg : Bool} (ex : evE E x = some (.fp a)) (hw : fieldR off sz agg a = some w) (k : RD P r S Q ((d, .fp w) :: E) h) : RD P (⟨some d, .faddr off sz agg x, none, hf⟩ :: r) S Q E h := rd_op (ov_faddr ex hw) k
theorem lD {α : Type} {t : TR α} {s : α} {a : PV} {x : Operand} {sz : Nat} {agg : Bool} (q : t.R s a) (ex : evE E x = some (.fp a)) (h1 : t.sz = sz) (h2 : t.ag = agg) (k : RD P r S Q ((d, a) :: E) h) : RD P (⟨some d, .load sz agg x, none, hf⟩ :: r) S Q E h := rd_op (ov_load ex (by rw [TR.cnt t q, h1]) (by rw [TR.agg t q, h2])) k
theorem lR {a : PV} {x : Operand} {sz : Nat} {agg : Bool} (ex : evE E x = some (.fp a)) (h1 : cnt a = some sz) (h2 : a.isAgg = agg) (k : RD P r S Q ((d, a) :: E) h) : RD P (⟨some d, .load sz agg x, none, hf⟩ :: r) S Q E h := rd_op (ov_load ex h1 h2) k
/-- A field that holds a number: its address, and what stands there. -/
theorem fL {x : Operand} {a w : PV} {off sz sz2 : Nat} {agg agg2 : Bool} (ex : evE E x = some (.fp a)) (hw : fieldR off sz agg a = some w) (h1 : cnt w = some sz2) (h2 : w.isAgg = agg2) (k : RD P r S Q ((d2, w) :: (d, .fp w) :: E) h) : RD P (⟨some d, .faddr off sz agg x, none, hf⟩ :: ⟨some d2, .load sz2 agg2 (.tmp d), none, hf2⟩ :: r) S Q E h :=
  rd_op (ov_faddr ex hw) (rd_op (ov_load (by simp only [evE, look, Nat.beq_refl, cond_true]) h1 h2) k)
/-- A field that holds a list or a record. -/
theorem gL {β : Type} {t : TR β} {y : β} {x : Operand} {a : PV} {off sz sz2 : Nat} {agg agg2 : Bool} (g : ∃ w, fieldR off sz agg a = some w ∧ t.R y w) (ex : evE E x = some (.fp a)) (h1 : t.sz = sz2) (h2 : t.ag = agg2) (k : ∀ w, t.R y w → RD P r S Q ((d2, w) :: (d, .fp w) :: E) h) : RD P (⟨some d, .faddr off sz agg x, none, hf⟩ :: ⟨some d2, .load sz2 agg2 (.tmp d), none, hf2⟩ :: r) S Q E h := by
  obtain ⟨w, e, q⟩ := g
  exact fL ex e (by rw [TR.cnt t q, h1]) (by rw [TR.agg t q, h2]) (k w q)
theorem cL {g : FuncId} {a1 : List PV} {v : PV} (hfn : FnR P g a1 v) (ef : evE E f = some (.fn (.func g) [] [])) (ea : evL E args = some a1) (hc : closedL a1 = true) (k : RD P r S Q ((d, v) :: E) h) : RD P (⟨some d, .call f args, none, hf⟩ :: r) S Q E h := rd_call (cv_fn ef ea hc hfn) k

/-! A run of operations under a condition -/
/-- The next operations by themselves. -/
theorem rd_cutn (n : Nat) {d : Nat} {v : PV} (H : ∀ (S : List Fr) (Q : Post) (r : List AOper), RD P r S Q ((d, v) :: E) h → RD P (l.take n ++ r) S Q E h) (k : RD P (l.drop n) S Q ((d, v) :: E) h) : RD P l S Q E h := by
  rw [← List.take_append_drop n l]; exact H S Q _ k
theorem rx_cutn (n : Nat) {d : Nat} {v : PV} (H : ∀ (S : List Fr) (Q : Post) (r : List AOper), RX P r S Q ((d, v) :: E) h → RX P (l.take n ++ r) S Q E h) (k : RX P (l.drop n) S Q ((d, v) :: E) h) : RX P l S Q E h := by
  rw [← List.take_append_drop n l]; exact H S Q _ k
theorem rx_weak (s : SubE E E0) (k : RX P l S Q E0 h) : RX P l S Q E h := fun T hT => k T (hT.sub s)
/-- The end of a run of operations under a condition. -/
theorem gK {c x y : Operand} {u a b v : PV} (ec : evE E c = some u) (ex : evE E x = some a) (ey : evE E y = some b) (hp : pickR u a b = some v) (s : E0.map (fun p => look p.1 ((d, v) :: E)) = E0.map (fun p => some p.2)) (k : RD P r S Q E0 h) : RD P (⟨some d, .pick c x y, none, hf⟩ :: r) S Q E h :=
  rd_op (ov_pick ec ex ey hp) (rd_weak (sB s) k)
/-- What is told when operations are left out. -/
def skipE : Nat → TEnv → List AOper → Option (TEnv × List AOper)
  | 0, E, l => some (E, l)
  | n + 1, E, ⟨some d, op, some (t, w), hf⟩ :: r => match look t E with
    | some (.sc (.bool b)) => if b = w then none else skipE n ((d, .tup []) :: E) r
    | some (.tup []) => skipE n ((d, .tup []) :: E) r
    | _ => none
  | _, _, _ => none
theorem skips : ∀ (n : Nat) {E E1 : TEnv} {l l1 : List AOper}, skipE n E l = some (E1, l1) → RD P l1 S Q E1 h → RD P l S Q E h
  | 0, E, E1, l, l1, e, k => by simp only [skipE, Option.some.injEq, Prod.mk.injEq] at e; obtain ⟨rfl, rfl⟩ := e; exact k
  | n + 1, E, E1, [], l1, e, k => by simp [skipE] at e
  | n + 1, E, E1, ⟨none, op, g, hf⟩ :: r, l1, e, k => by simp [skipE] at e
  | n + 1, E, E1, ⟨some d, op, none, hf⟩ :: r, l1, e, k => by simp [skipE] at e
  | n + 1, E, E1, ⟨some d, op, some (t, w), hf⟩ :: r, l1, e, k => by
    simp only [skipE] at e
    split at e
    · rename_i b hb
      split at e
      · cases e
      · rename_i hne
        refine rd_skip hb ?_ (skips n e k)
        cases b <;> cases w <;> simp_all
    · rename_i hb
      exact rd_skipU hb (skips n e k)
    · cases e
/-- A run of operations under a condition that does not hold. -/
theorem gN (n : Nat) {E1 : TEnv} {c x y : Operand} {u a b v : PV} (e : skipE n E l = some (E1, ⟨some d, .pick c x y, none, hf⟩ :: r)) (ec : evE E1 c = some u) (ex : evE E1 x = some a) (ey : evE E1 y = some b) (hp : pickR u a b = some v) (s : E0.map (fun p => look p.1 ((d, v) :: E1)) = E0.map (fun p => some p.2)) (k : RD P r S Q E0 h) : RD P l S Q E h :=
  skips n e (gK ec ex ey hp s k)
end
end Go.Pb

/-
  Plain library, part 46: own lists whose parts are own lists.
-/
set_option linter.unusedVariables false
set_option linter.unusedSimpArgs false
namespace Go.Pb
open Go Go.RowKit

section
variable {P : Program} {h : Heap}
theorem Mem.perm {L L' : List Ent} (M : Mem h L) (p : L.Perm L') : Mem h L' :=
  ⟨fun e he => M.ent e (p.mem_iff.2 he), (p.pairwise_iff fun {a b} hab => hab.symm).1 M.dis⟩

theorem evL_len {E : TEnv} : ∀ {os : List Operand} {vs : List PV}, evL E os = some vs → os.length = vs.length
  | [], vs, h => by simp only [evL, Option.some.injEq] at h; subst h; rfl
  | o :: os, vs, h => by
    simp only [evL] at h
    split at h
    · split at h
      · rename_i hl
        simp only [Option.some.injEq] at h
        subst h
        rw [List.length_cons, List.length_cons, evL_len hl]
      · cases h
    · cases h
/-- A slice literal in memory of its own. -/
theorem rd_bslO {S : List Fr} {Q : Post} {E : TEnv} {L : List Ent} {r : List AOper} {ty : TypeId} {sz d : Nat} {z hf : Bool} {os : List Operand} {vs : List PV} (M : Mem h L) (es : evL E os = some vs) (hc : vs.all (fun v => cnt v == some sz) = true)
    (K : ∀ id ver h', Mem h' (⟨.os id ver 0 vs.length, ty, sz, vs⟩ :: L) → RD P r S Q ((d, .os id ver 0 vs.length) :: E) h') : RD P (⟨some d, .bslice true ty sz z os, none, hf⟩ :: r) S Q E h := by
  have hc' : ∀ x ∈ vs, cnt x = some sz := fun x hx => by have := List.all_eq_true.1 hc x hx; simpa using this
  obtain ⟨cs, h1, h2⟩ := rowCells_ex hc'
  have hl : os.length = vs.length := evL_len es
  refine rd_own ⟨rfl, fun T hT => ?_⟩ (K (hlen h) h.nv (hnew h (.cells h.nv ty true cs)) (M.new ⟨hc', rfl, cs, h1, by simp⟩ (fun i hi => by simp [idOf] at hi; omega) fun i hi => by simp [hi]))
  show (if (os.map (ev T)).all (fun v => cnt v == some sz) then (rowCells (os.map (ev T))).map fun cs => (PV.os h.bl.length h.nv 0 os.length, newBlk h ty cs) else none) = _
  rw [evL_ok hT es, if_pos hc, h1, hl]
  rfl
/-- One inner list. -/
structure NsE {α : Type} (t : TR α) (ty : TypeId) (l : List α) (v : PV) (e : Ent) : Prop where
  ad : e.v = v
  ty : e.ty = ty
  sz : e.sz = t.sz
  el : All2 t.R l e.es
  isl : isL v = true
  len : l.length ≤ 4611686018427387904
  wri : Wri v e.es
/-- The inner lists of a list, their addresses, and what memory holds of them. -/
def Ns {α : Type} (t : TR α) (ty : TypeId) : List (List α) → List PV → List Ent → Prop
  | [], [], [] => True
  | l :: ls, v :: vs, e :: es => NsE t ty l v e ∧ Ns t ty ls vs es
  | _, _, _ => False
section
variable {α : Type} {t : TR α} {ty : TypeId}
theorem Ns.len : ∀ {ls : List (List α)} {vs : List PV} {I : List Ent}, Ns t ty ls vs I → vs.length = ls.length ∧ I.length = ls.length
  | [], [], [], _ => ⟨rfl, rfl⟩
  | l :: ls, v :: vs, e :: es, h => by have := Ns.len h.2; exact ⟨by simp [this.1], by simp [this.2]⟩
  | [], [], _ :: _, h => by simp [Ns] at h
  | [], _ :: _, _, h => by simp [Ns] at h
  | _ :: _, [], _, h => by simp [Ns] at h
  | _ :: _, _ :: _, [], h => by simp [Ns] at h
theorem Ns.get : ∀ {ls : List (List α)} {vs : List PV} {I : List Ent} {k : Nat} (_ : Ns t ty ls vs I) (hk : k < ls.length), ∃ v e, vs[k]? = some v ∧ I[k]? = some e ∧ NsE t ty ls[k] v e
  | l :: ls, v :: vs, e :: es, 0, h, _ => ⟨v, e, rfl, rfl, h.1⟩
  | l :: ls, v :: vs, e :: es, k + 1, h, hk => by
    obtain ⟨w, f, h1, h2, h3⟩ := Ns.get (k := k) h.2 (by simpa using hk)
    exact ⟨w, f, by simpa using h1, by simpa using h2, by simpa using h3⟩
  | [], _, _, _, _, hk => by simp at hk
  | _ :: _, [], _, _, h, _ => by simp [Ns] at h
  | _ :: _, _ :: _, [], _, h, _ => by simp [Ns] at h
theorem Ns.set : ∀ {ls : List (List α)} {vs : List PV} {I : List Ent} {k : Nat} {l : List α} {v : PV} {e : Ent}, Ns t ty ls vs I → NsE t ty l v e → Ns t ty (ls.set k l) (vs.set k v) (I.set k e)
  | [], [], [], _, _, _, _, _, _ => trivial
  | l :: ls, v :: vs, e :: es, 0, _, _, _, h, he => ⟨he, h.2⟩
  | l :: ls, v :: vs, e :: es, k + 1, _, _, _, h, he => ⟨h.1, Ns.set h.2 he⟩
  | [], [], _ :: _, _, _, _, _, h, _ => by simp [Ns] at h
  | [], _ :: _, _, _, _, _, _, h, _ => by simp [Ns] at h
  | _ :: _, [], _, _, _, _, _, h, _ => by simp [Ns] at h
  | _ :: _, _ :: _, [], _, _, _, _, h, _ => by simp [Ns] at h
theorem Ns.app1 : ∀ {ls : List (List α)} {vs : List PV} {I : List Ent} {l : List α} {v : PV} {e : Ent}, Ns t ty ls vs I → NsE t ty l v e → Ns t ty (ls ++ [l]) (vs ++ [v]) (I ++ [e])
  | [], [], [], _, _, _, _, he => ⟨he, trivial⟩
  | l :: ls, v :: vs, e :: es, _, _, _, h, he => ⟨h.1, Ns.app1 h.2 he⟩
  | [], [], _ :: _, _, _, _, h, _ => by simp [Ns] at h
  | [], _ :: _, _, _, _, _, h, _ => by simp [Ns] at h
  | _ :: _, [], _, _, _, _, h, _ => by simp [Ns] at h
  | _ :: _, _ :: _, [], _, _, _, h, _ => by simp [Ns] at h
theorem ns_rep (n : Nat) : Ns t ty (List.replicate n ([] : List α)) (List.replicate n nilS) (List.replicate n ⟨nilS, ty, t.sz, []⟩) := by
  induction n with
  | zero => trivial
  | succ n ih => exact ⟨⟨rfl, rfl, rfl, trivial, rfl, by simp, .inl rfl⟩, ih⟩
/-- Empty inner lists hold nothing. -/
theorem mem_reps {L : List Ent} (M : Mem h L) (ty : TypeId) (sz : Nat) : ∀ n, Mem h (List.replicate n ⟨nilS, ty, sz, []⟩ ++ L)
  | 0 => M
  | n + 1 => mem_acc (mem_reps M ty sz n) ty (.inl ⟨none, rfl, rfl⟩) (by simp)
theorem ns_new {C R : List Ent} (M : Mem h (C ++ R)) (ty : TypeId) (sz n : Nat) : Mem h (C ++ (List.replicate n ⟨nilS, ty, sz, []⟩ ++ R)) :=
  (mem_reps M ty sz n).perm (by rw [← List.append_assoc, ← List.append_assoc]; exact List.Perm.append_right R List.perm_append_comm)
theorem perm_erase {I : List Ent} {k : Nat} {e : Ent} (hk : I[k]? = some e) : I.Perm (e :: I.eraseIdx k) := by
  obtain ⟨hlt, rfl⟩ := List.getElem?_eq_some_iff.1 hk
  have h1 : I = I.take k ++ I[k] :: I.drop (k + 1) := by rw [← List.drop_eq_getElem_cons hlt, List.take_append_drop]
  have h2 : I.eraseIdx k = I.take k ++ I.drop (k + 1) := List.eraseIdx_eq_take_drop_succ ..
  rw [h2]
  exact (List.Perm.of_eq h1).trans List.perm_middle
/-- One inner list to the front. -/
theorem ns_focus {C I R : List Ent} {k : Nat} {e : Ent} (M : Mem h (C ++ (I ++ R))) (hk : I[k]? = some e) : Mem h (e :: (C ++ (I.eraseIdx k ++ R))) :=
  M.perm (((perm_erase hk).append_right R).append_left C |>.trans List.perm_middle)
theorem perm_set {I : List Ent} {k : Nat} {e : Ent} (hk : k < I.length) : (I.set k e).Perm (e :: I.eraseIdx k) := by
  have h1 : (I.set k e)[k]? = some e := by simp [hk]
  have h2 := perm_erase h1
  rwa [List.eraseIdx_set_eq] at h2
/-- Back to its place, another one. -/
theorem ns_back {C I R : List Ent} {k : Nat} {e : Ent} (M : Mem h (e :: (C ++ (I.eraseIdx k ++ R)))) (hk : k < I.length) : Mem h (C ++ (I.set k e ++ R)) :=
  M.perm ((List.perm_middle (l₁ := C) (l₂ := I.eraseIdx k ++ R) (a := e)).symm.trans (((perm_set hk).symm.append_right R).append_left C))
/-- Back to its place, unchanged. -/
theorem ns_back0 {C I R : List Ent} {k : Nat} {e : Ent} (M : Mem h (e :: (C ++ (I.eraseIdx k ++ R)))) (hk : I[k]? = some e) : Mem h (C ++ (I ++ R)) :=
  M.perm ((List.perm_middle (l₁ := C) (l₂ := I.eraseIdx k ++ R) (a := e)).symm.trans (((perm_erase hk).symm.append_right R).append_left C))
/-- One inner list, as it lies in memory. -/
theorem ns_at [Inhabited α] {ls : List (List α)} {vs : List PV} {I : List Ent} {i : Int} (H : Ns t ty ls vs I) (h0 : 0 ≤ i) (h1 : i < ls.length) :
    ∃ v es, vs[i.toNat]? = some v ∧ I[i.toNat]? = some ⟨v, ty, t.sz, es⟩ ∧ All2 t.R (ix ls i) es ∧ isL v = true ∧ (ix ls i).length ≤ 4611686018427387904 ∧ Wri v es := by
  obtain ⟨v, e, h2, h3, h4⟩ := H.get (k := i.toNat) (by omega)
  rw [ix_lt h0 h1]
  obtain ⟨v', ty', sz', es'⟩ := e
  obtain ⟨e1, e2, e3, e4, e5, e6, e7⟩ := h4
  simp only at e1 e2 e3
  subst e1 e2 e3
  exact ⟨v', es', h2, h3, e4, e5, e6, e7⟩
theorem ns_put {ls : List (List α)} {vs : List PV} {I : List Ent} {k : Nat} {l : List α} {v : PV} {es : List PV} (H : Ns t ty ls vs I) (h1 : All2 t.R l es) (h2 : isL v = true) (h3 : l.length ≤ 4611686018427387904) (h4 : Wri v es) : Ns t ty (ls.set k l) (vs.set k v) (I.set k ⟨v, ty, t.sz, es⟩) :=
  H.set ⟨rfl, rfl, rfl, h1, h2, h3, h4⟩
theorem set_same {v : PV} : ∀ {vs : List PV} {k : Nat}, vs[k]? = some v → vs.set k v = vs
  | [], _, h => by simp at h
  | a :: vs, 0, h => by simp at h; simp [h]
  | a :: vs, k + 1, h => by simp at h; simp [set_same h]
theorem ns_put0 {ls : List (List α)} {vs : List PV} {I : List Ent} {k : Nat} {l : List α} {v : PV} {es : List PV} (H : Ns t ty ls vs I) (hv : vs[k]? = some v) (h1 : All2 t.R l es) (h2 : isL v = true) (h3 : l.length ≤ 4611686018427387904) (h4 : Wri v es) : Ns t ty (ls.set k l) vs (I.set k ⟨v, ty, t.sz, es⟩) := by
  have := ns_put H h1 h2 h3 h4 (k := k)
  rwa [set_same hv] at this
theorem own_lenN {L : List Ent} {k : Nat} {tyo sz : Nat} {v : PV} {es : List PV} {I : List Ent} {ls : List (List α)} (M : Mem h L) (hk : L[k]? = some ⟨v, tyo, sz, es⟩) {t' e' : TypeId} (ht : P.underlying t' = some (.slice e')) (hne : isL v = true) (hl : Ns t ty ls es I) (ty' : TypeId) : biF P .len [t'].toArray ty' [v] = some (vi ls.length) := by
  have := ent_len (P := P) (M.at hk) ht hne ty'
  rw [this, hl.len.1]
/-- A list of own lists, handed out, in the words of the evaluator. -/
theorem cells1 {v : PV} (h : cnt v = some 1) (ha : v.isAgg = false) : v.cellsOf = some [v] := by
  cases v <;> simp_all [cnt, PV.cellsOf, PV.isAgg]
theorem row1 : ∀ {vs : List PV}, (∀ v ∈ vs, cnt v = some 1 ∧ v.isAgg = false) → rowCells vs = some vs
  | [], _ => rfl
  | v :: vs, h => by
    simp only [rowCells, cells1 (h v List.mem_cons_self).1 (h v List.mem_cons_self).2, row1 fun x hx => h x (List.mem_cons_of_mem _ hx)]
    rfl
theorem deepC_own {e : Ent} (H : EntR h e) (hne : isL e.v = true) (hc : closedL e.es = true) : ∃ r, DeepC P h e.v r ∧ IsSl r e.es := by
  obtain ⟨v, ty, sz, es⟩ := e
  have M : Mem h [⟨v, ty, sz, es⟩] := ⟨fun x hx => by rw [List.mem_singleton.1 hx]; exact H, List.pairwise_singleton ..⟩
  obtain ⟨r, h1, h2⟩ := mem_deep (P := P) (k := 0) M rfl hne hc
  refine ⟨r, ?_, h2⟩
  have H2 := H.2
  have hra : r.isAgg = false := by rcases h2 with ⟨ad, rfl, _⟩ | ⟨tg, rfl⟩ <;> rfl
  simp only at hne hc
  unfold EntV at H2
  split at H2
  · rename_i hv; simp only at hv; rw [hv] at hne; cases hne
  · rename_i id ver n hv
    simp only at hv
    subst hv
    refine ⟨h1.1, by rw [hra]; rfl, fun k hk w0 F0 x us R hv => ?_⟩
    have hv0 := hv
    simp only [VRC] at hv
    obtain ⟨b, cap, hj, rfl, _⟩ := hv
    have := h1.2 k hk w0 F0 x _ R hv0
    unfold VR at this
    rw [hra] at this
    exact this
  · rename_i ad hv
    simp only at hv
    subst hv
    refine ⟨h1.1, by rw [hra]; rfl, fun k hk w0 F0 x us R hv => ?_⟩
    have hv0 := hv
    simp only [VRC] at hv
    obtain ⟨rfl, _⟩ := hv
    have := h1.2 k hk w0 F0 x _ R hv0
    unfold VR at this
    rw [hra] at this
    exact this
  · rename_i es' hv
    simp only at hv
    subst hv
    refine ⟨h1.1, by rw [hra]; rfl, fun k hk w0 F0 x us R hv => ?_⟩
    have hv0 := hv
    simp only [VRC] at hv
    obtain ⟨b, o, cap, sz, rfl, _⟩ := hv
    have := h1.2 k hk w0 F0 x _ R hv0
    unfold VR at this
    rw [hra] at this
    exact this
  · rename_i hv; simp only at hv; rw [hv] at hne; cases hne
  · exact H2.elim
theorem ns_deeps : ∀ {ls : List (List α)} {vs : List PV} {I L : List Ent}, Mem h L → (∀ e ∈ I, e ∈ L) → Ns t ty ls vs I → ∃ ds, DeepCL P h vs ds ∧ All2 (tSl t).R ls ds
  | [], [], [], L, M, hs, H => ⟨[], trivial, trivial⟩
  | l :: ls, v :: vs, e :: es, L, M, hs, H => by
    obtain ⟨ds, h1, h2⟩ := ns_deeps M (fun x hx => hs x (List.mem_cons_of_mem _ hx)) H.2
    obtain ⟨v', ty', sz', es'⟩ := e
    obtain ⟨e1, e2, e3, e4, e5, e6, e7⟩ := H.1
    simp only at e1 e2 e3 e4
    subst e1 e2 e3
    obtain ⟨r, h3, h4⟩ := deepC_own (P := P) (M.ent _ (hs _ List.mem_cons_self)) e5 e4.clo
    exact ⟨r :: ds, ⟨h3, h1⟩, ⟨⟨_, h4, e4⟩, Nat.le_trans e6 (by decide)⟩, h2⟩
  | [], [], _ :: _, _, _, _, H => by simp [Ns] at H
  | [], _ :: _, _, _, _, _, H => by simp [Ns] at H
  | _ :: _, [], _, _, _, _, H => by simp [Ns] at H
  | _ :: _, _ :: _, [], _, _, _, H => by simp [Ns] at H
/-- An own list of own lists, handed out. -/
theorem ns_deep {C R I : List Ent} {A : PV} {tyo : TypeId} {vs : List PV} {ls : List (List α)} {k : Nat} (M : Mem h (C ++ (I ++ R))) (hk : C[k]? = some ⟨A, tyo, 1, vs⟩) (hne : isL A = true) (H : Ns t ty ls vs I) (hb : ls.length ≤ 9223372036854775807) :
    ∃ r, Deep P h A r ∧ (tSl (tSl t)).R ls r := by
  obtain ⟨ds, h1, h2⟩ := ns_deeps (P := P) M (fun e he => List.mem_append_right _ (List.mem_append_left _ he)) H
  have HE := M.ent _ (List.mem_append_left _ (List.mem_of_getElem? hk))
  have hld := h1.len
  have H2 := HE.2
  simp only at H2
  unfold EntV at H2
  split at H2
  · cases hne
  · rename_i id ver n
    obtain ⟨hn, cs, h3, h4⟩ := H2
    have c1 : ∀ v ∈ ds, cnt v = some 1 ∧ v.isAgg = false := by
      have : ∀ {ls : List (List α)} {ds : List PV}, All2 (tSl t).R ls ds → ∀ v ∈ ds, cnt v = some 1 ∧ v.isAgg = false := by
        intro ls ds h v hv
        refine ⟨All2.cnt (t := tSl t) h v hv, ?_⟩
        obtain ⟨j, hj, rfl⟩ := List.getElem_of_mem hv
        obtain ⟨a, ha⟩ : ∃ a, (tSl t).R a ds[j] := by
          have hl := h.length
          obtain ⟨e, he1, he2⟩ := h.get (k := j) (by omega)
          rw [List.getElem?_eq_getElem hj, Option.some.injEq] at he1
          exact ⟨_, he1 ▸ he2⟩
        exact (tSl t).agg ha
      exact this h2
    have c0 : ∀ v ∈ vs, cnt v = some 1 ∧ v.isAgg = false := by
      intro v hv
      refine ⟨HE.1 v hv, ?_⟩
      have : ∀ {vs ds : List PV}, DeepCL P h vs ds → (∀ v ∈ ds, v.isAgg = false) → ∀ v ∈ vs, v.isAgg = false := by
        intro vs
        induction vs with
        | nil => intro ds _ _ v hv; cases hv
        | cons a vs ih =>
          intro ds h k v hv
          cases ds with
          | nil => exact h.elim
          | cons d ds =>
            rcases List.mem_cons.1 hv with rfl | hv
            · rw [← h.1.2.1]; exact k d List.mem_cons_self
            · exact ih h.2 (fun x hx => k x (List.mem_cons_of_mem _ hx)) v hv
      exact this h1 (fun x hx => (c1 x hx).2) v hv
    rw [row1 c0, Option.some.injEq] at h3
    subst h3
    refine ⟨.fs false ds, ⟨by have := h1.closed; simpa [closed] using this, fun k hk w0 F0 x u R hv => ?_⟩, ⟨⟨ds, .inr ⟨false, rfl⟩, h2⟩, hb⟩⟩
    simp only [VR, AsVal, PV.isAgg, VRC, List.cons.injEq, and_true] at hv
    obtain ⟨b, cap, hj, rfl, g1, g2, _⟩ := hv
    obtain ⟨cur, hcur, hcl, hvr⟩ := own_cells R (hk _ _ h4) hj
    have hF : (⟨x.w, star w0 F0 x.w, noJ⟩ : Cx).F b := .inr (R.own _ _ _ hj)
    have hall : ds.all (fun v => cnt v == some 1) = true := by
      rw [List.all_eq_true]
      intro v hv
      simp [(c1 v hv).1]
    have hle : 0 + ds.length * 1 ≤ vs.length := by omega
    have hseg := VRL_seg hcl hvr 0 (ds.length * 1) hle
    have e1 : (vs.drop 0).take (ds.length * 1) = vs := by rw [List.drop_zero, Nat.mul_one, ← hld, List.take_length]
    rw [e1] at hseg
    refine ⟨b, 0, cap, 1, by rw [hn, hld], by omega, g2, by simp, VRM_of_cells hF (row1 c1) hall (cellsAt_row hcur 0 (ds.length * 1)) (h1.vrl hk R hseg)⟩
  · rename_i ad
    subst H2
    cases ls with
    | nil => exact ⟨_, deep_closed rfl, ⟨⟨[], .inl ⟨ad, rfl, rfl⟩, trivial⟩, hb⟩⟩
    | cons a ls => simp [Ns] at H
  · rename_i es'
    subst H2
    have := h1
    refine ⟨.fs true ds, ⟨by have := h1.closed; simpa [closed] using this, fun k hk w0 F0 x u R hv => ?_⟩, ⟨⟨ds, .inr ⟨true, rfl⟩, h2⟩, hb⟩⟩
    simp only [VR, AsVal, PV.isAgg, VRC] at hv ⊢
    obtain ⟨b, o, cap, sz, e, g2, g3, g4, hr⟩ := hv
    rw [← h1.len]
    exact ⟨b, o, cap, sz, e, g2, g3, g4, h1.vrm hk R hr⟩
  · cases hne
  · exact H2.elim
end
end
end Go.Pb
