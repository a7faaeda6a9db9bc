import Derived.Test.YtmonnlkagniolaaGreatPbC
import Derived.Sort.Grow
import Derived.Shelf.SlSortCmp.NoneTotal
import Derived.Test.YtmonnlkagniolaaGreatPbK
set_option linter.unusedVariables false
set_option linter.unusedSimpArgs false
namespace Go.Pb
open Go Go.RowKit
section
variable {P : Program} {S : List Fr} {Q : Post} {E : TEnv} {h : Heap} {hf : Bool} {L : List Ent} {r : List AOper} {ty : TypeId} {sz : Nat}
theorem rg {x : Operand} {lo hi : Option Operand} {a b : Int} {tt : TypeId} {id ver off n : Nat} (ex : evE E x = some (.os id ver off n)) (ha : Bnd E 0 lo a) (hb : Bnd E n hi b) (h0 : 0 ≤ a) (h1 : a < b) (h2 : b ≤ (n : Int)) (hs : 0 < sz) :
 OV P (.slice tt sz x lo hi none) hf E h (.os id ver (off + a.toNat * sz) (b.toNat - a.toNat)) := ⟨rfl, fun T hT => by
 have e1 : boundF T 0 lo = some a.toNat := ha.eq hT h0
 have e2 : boundF T n hi = some b.toNat := hb.eq hT (by omega)
 simp only [opQ, fj hT ex, e1, e2, boundM]
 rw [if_pos ⟨by omega, by omega, hs, rfl⟩, if_neg (by omega)]⟩
theorem RelP.cut {w0 : World} {F0 : Nat → Prop} {x : Cx} (R : RelP P w0 F0 h x) {id ver m : Nat} {t : TypeId} {cs : List PV} (hb : h.bl[id]? = some (.cells ver t true cs)) : RelP P w0 F0 (hput h id (.cells ver t true (cs.take m))) x := by
 have hset : ∀ (k : Nat) blk, (h.bl.set id (.cells ver t true (cs.take m)))[k]? = some blk → ∃ blk', h.bl[k]? = some blk' ∧ blk'.ver = blk.ver ∧ (blk = blk' ∨ (k = id ∧ blk = .cells ver t true (cs.take m))) := fun k blk hk => by
  rcases tz k blk hk with ⟨rfl, rfl⟩ | ⟨hne, hk'⟩
  ·exact ⟨_, hb, rfl, .inr ⟨rfl, rfl⟩⟩
  ·exact ⟨blk, hk', rfl, .inl rfl⟩
 refine ⟨R.below, R.f0, R.fsub, R.fnew, R.own, R.fresh, fun id1 id2 b1 b2 b h1 h2 h3 h4 => ?_, fun k blk hk => ?_⟩
 ·obtain ⟨c1, e1, v1, _⟩ := hset id1 b1 h1
  obtain ⟨c2, e2, v2, _⟩ := hset id2 b2 h2
  exact R.inj id1 id2 c1 c2 b e1 e2 (by rw [v1]; exact h3) (by rw [v2]; exact h4)
 ·obtain ⟨c1, e1, v1, hc⟩ := hset k blk hk
  rcases hc with rfl | ⟨rfl, rfl⟩
  ·exact R.hr k _ e1
  ·intro b hj
   obtain ⟨⟨cur, h5, h6, h7⟩, h8⟩ := R.hr k _ hb b hj
   refine ⟨⟨cur, h5, by simp; omega, ?_⟩, h8⟩
   have := VRL_take m h7
   rw [List.take_take] at this
   rw [List.length_take]
   exact this
theorem wn : ∀ {es cs : List PV}, (∀ y ∈ es, cnt y = some sz) → rowCells es = some cs → ∀ k, rowCells (es.take k) = some (cs.take (k * sz))
 | es, cs, _, _, 0 => by simp [rowCells]
 | [], cs, hc, hr, k + 1 => by
   simp only [rowCells, Option.some.injEq] at hr
   subst hr
   simp [rowCells]
 | e :: es, cs, hc, hr, k + 1 => by
   obtain ⟨a, h1, h2⟩ := ky (hc e (by simp))
   obtain ⟨b, h3, h4⟩ := ke (es := es) (sz := sz) fun x hx => hc x (by simp [hx])
   simp only [rowCells, h1, h3, Option.some.injEq] at hr
   subst hr
   have ih := wn (fun x hx => hc x (by simp [hx])) h3 k
   simp only [List.take_succ_cons, rowCells, h1, ih, Option.some.injEq]
   rw [show (k + 1) * sz = a.length + k * sz by rw [Nat.succ_mul]; omega, List.take_append, List.take_of_length_le (l := a) (i := a.length + k * sz) (Nat.le_add_right _ _)]
   simp
theorem bc4 {k : Nat} {id ver n kk : Nat} {es : List PV} {z : Value} {x : Operand} (M : Mem h L) (hk : L[k]? = some ⟨.os id ver 0 n, ty, sz, es⟩) (ex : evE E x = some (.os id ver (0 + kk * sz) (n - kk))) (hlt : kk < n) (hz : z.cells.size = sz)
 (K : ∀ h', Mem h' (L.set k ⟨.os id ver 0 kk, ty, sz, es.take kk⟩) → RS P r S Q E h') : RS P (⟨none, .clr sz z x, none, hf⟩ :: r) S Q E h := by
 obtain ⟨h1, hn, cs, h2, h3⟩ := M.atF hk
 obtain ⟨cs', h4, h5⟩ := ke h1
 rw [h2] at h4
 simp only [Option.some.injEq] at h4
 subst h4
 have hrl : (repCells (n - kk) (z.cells.toList.map PV.sc)).length = (n - kk) * sz := by
  unfold repCells
  rw [km (sz := sz) _ (fun p hp => by rw [List.eq_of_mem_replicate hp]; simpa using hz)]
  simp
 have hmul : kk * sz + (n - kk) * sz = n * sz := by rw [← Nat.add_mul]; congr 1; omega
 have hcl : cs.length = n * sz := by rw [h5, hn]
 intro T hT
 refine ⟨T, h, Wk.refl T h, true, rfl, fun _ => .inl ?_, fun e => by cases e⟩
 have hq : opL T h (.clr sz z x) = some (.tup [], hput h id (.cells ver ty true (spl cs (0 + kk * sz) (repCells (n - kk) (z.cells.toList.map PV.sc))))) := by
  have hb : h.bl[id]? = some (.cells ver ty true cs) := h3
  obtain ⟨q, hq⟩ : ∃ q, n - kk = q + 1 := ⟨n - kk - 1, by omega⟩
  have ex' := fj hT ex
  rw [hq] at ex' hmul hrl ⊢
  simp only [opL, ex', hb]
  rw [if_pos ⟨trivial, by omega, by omega⟩]
  rfl
 show OpD P (.clr sz z x) hf T h _
 unfold OpD
 show ∃ r h', opL T h (.clr sz z x) = some (r, h') ∧ _
 refine ⟨_, _, hq, ?_⟩
 have htk : (spl cs (0 + kk * sz) (repCells (n - kk) (z.cells.toList.map PV.sc))).take (kk * sz) = cs.take (kk * sz) := by
  unfold spl
  rw [Nat.zero_add, List.take_append_of_le_length (by simp; omega), List.take_take, Nat.min_self]
 have hlt2 := oo h3
 have hb2 : (hput h id (.cells ver ty true (spl cs (0 + kk * sz) (repCells (n - kk) (z.cells.toList.map PV.sc))))).bl[id]? = some (.cells ver ty true (spl cs (0 + kk * sz) (repCells (n - kk) (z.cells.toList.map PV.sc)))) := tj h id _ hlt2
 have hM : Mem (hput (hput h id (.cells ver ty true (spl cs (0 + kk * sz) (repCells (n - kk) (z.cells.toList.map PV.sc))))) id (.cells ver ty true (cs.take (kk * sz)))) (L.set k ⟨.os id ver 0 kk, ty, sz, es.take kk⟩) := by
  refine M.upd hk ⟨fun x hx => h1 x (List.take_subset _ _ hx), by simp; omega, _, ?_, tj _ _ _ (by simpa [hput, hlen] using hlt2)⟩ (fun i hi => .inl hi) fun i hi hne => ?_
  ·exact wn h1 h2 kk
  ·have hne' : ¬ id = i := fun e => hne (by simp [idOf, e])
   rw [ly _ _ _ _ hne', ly _ _ _ _ hne']
 refine be0 (T' := T) ?_ (K _ hM T hT)
 intro w0 F0 n' y ac R hTm
 refine ⟨y, rfl, Ext.refl y, ?_, hTm⟩
 have := R.cut (m := kk * sz) hb2
 rwa [htk] at this
def cpF {α : Type} [Inhabited α] [DecidableEq α] (l : List α) : Nat → List α
 | 0 => []
 | m + 1 => cpF l m ++ (if m = 0 ∨ ix l (m : Int) ≠ ix l ((m : Int) - 1) then [ix l (m : Int)] else [])
def cpt {α : Type} [Inhabited α] [DecidableEq α] (l : List α) : List α := cpF l l.length
theorem ad6 {α : Type} [Inhabited α] [DecidableEq α] (l : List α) : ∀ m, (cpF l m).length ≤ m
 | 0 => by simp [cpF]
 | m + 1 => by
   have := ad6 l m
   rw [cpF, List.length_append]
   split <;> simp <;> omega
theorem ti {α : Type} [Inhabited α] [DecidableEq α] {l : List α} {m : Nat} (h : m = 0 ∨ ix l (m : Int) ≠ ix l ((m : Int) - 1)) : cpF l (m + 1) = cpF l m ++ [ix l (m : Int)] := by rw [cpF, if_pos h]
theorem yz {α : Type} [Inhabited α] [DecidableEq α] {l : List α} {m : Nat} (h0 : 0 < m) (h : ix l (m : Int) = ix l ((m : Int) - 1)) : cpF l (m + 1) = cpF l m := by
 rw [cpF, if_neg (by simp [h]; omega), List.append_nil]
theorem yu {α : Type} [Inhabited α] {l : List α} {m : Nat} (h : m < l.length) : l.take (m + 1) = l.take m ++ [ix l (m : Int)] := by
 rw [ah7 h, List.take_add_one, List.getElem?_eq_getElem h]
 rfl
theorem al1 {α : Type} [Inhabited α] [DecidableEq α] {l : List α} (h : l.length < 2) : cpt l = l := by
 unfold cpt
 match l, h with
 | [], _ => rfl
 | [a], _ => simp [cpF, ix]
theorem sk {id ver off n : Nat} {t e : TypeId} (ht : P.underlying t = some (.slice e)) (ty : TypeId) : biF P .len [t].toArray ty [.os id ver off n] = some (vi (n : Int)) := by
 simp [biF, toVs, toV, ht, vi]
end
end Go.Pb
set_option linter.unusedVariables false
set_option linter.unusedSimpArgs false
namespace Go.Pb
open Go Go.RowKit
section
variable {P : Program} {h : Heap} {ty : TypeId} {sz : Nat}
theorem VRL_sc_eq {x : Cx} : ∀ {us l : List Value}, VRL P x (us.map .sc) l → l = us
 | [], [], _ => rfl
 | [], _ :: _, h => by simp [VRL] at h
 | _ :: _, [], h => by simp [VRL] at h
 | u :: us, v :: l, h => by
   simp only [List.map_cons, VRL, VRC, List.cons.injEq, and_true] at h
   rw [h.2.1.1, VRL_sc_eq h.2.2]
theorem az2 {w : World} {b : Nat} {cur : Array Value} {us : List Value} (hc : w.heap[b]? = some (.cells cur ty (0, 0))) (hu : cur.toList.take us.length = us) : Go.Sort.Holds (id : Value → Value) w b 0 us.toArray := by
 intro j hj
 have hj' : j < us.length := by simpa using hj
 have hg : cur.toList[j]? = some us[j] := by
  have := congrArg (fun l => l[j]?) hu
  simp only [List.getElem?_take, hj', if_true] at this
  rw [this, List.getElem?_eq_getElem hj']
 constructor
 ·simp only [World.cell?, hc, Option.isSome_none, Bool.false_eq_true, if_false, Nat.zero_add, id]
  rw [← Array.getElem?_toList, hg]
  simp [hj']
 ·simp [World.frozen?, hc]
theorem au2 {w : World} {b : Nat} {cur : Array Value} {us : List Value} (hc : w.heap[b]? = some (.cells cur ty (0, 0))) (hl : us.length ≤ cur.size) : Go.Sort.putRow (id : Value → Value) w b 0 us.toArray = w.setRow b (us ++ cur.toList.drop us.length).toArray := by
 have hcut : Go.Sort.putCells (id : Value → Value) 0 us.toArray cur = (us ++ cur.toList.drop us.length).toArray := by
  apply Array.ext'
  apply List.ext_getElem
  ·simp [Go.Sort.putCells]; omega
  ·intro j h1 h2
   simp only [Go.Sort.putCells, Array.toList_mapIdx, List.getElem_mapIdx, Nat.zero_le, true_and, Nat.zero_add, List.size_toArray, Nat.sub_zero, id]
   split
   ·rename_i hj
    simp only [List.getElem_append_left hj]
    simp [hj]
   ·rename_i hj
    rw [List.getElem_append_right (by omega), List.getElem_drop]
    congr 1
    omega
 unfold Go.Sort.putRow Go.Sort.mapBlock World.setRow
 congr 1
 apply Array.ext_getElem?
 intro k
 simp only [Array.getElem?_modify]
 by_cases hk : b = k
 ·subst hk
  simp only [if_true, hc, Option.map_some, Go.Sort.onCells, hcut]
 ·simp [hk]
theorem cm7 {g : FuncId} (he : Enters P g) {id ver n : Nat} {R : List Ent} {es es' : List PV} {us us' : List Value} {rest : List PV} {crest : List Value} (M : Mem h (⟨.os id ver 0 n, ty, sz, es⟩ :: R)) (e1 : rowCells es = some (us.map .sc)) (e2 : rowCells es' = some (us'.map .sc)) (hc' : ∀ x ∈ es', cnt x = some sz) (hlen : us'.length = us.length) (hes : es'.length = es.length) (h1 : ∀ u ∈ us', u.oneCell' = true)
 (hr : ∀ x cargs, VRV P x rest cargs → cargs = crest)
 (H : ∀ (w : World) (b cap : Nat), b < w.heap.size → Go.Sort.Holds (_root_.id : Value → Value) w b 0 us.toArray → Calls P g (.slice (some ⟨b, 0, none⟩) n cap :: crest).toArray w fun e w' => e = .returned (.tuple #[]) ∧ ∃ q os, w' = Go.Sort.grow (Go.Sort.putRow (_root_.id : Value → Value) (Go.Sort.ahead w q) b 0 us'.toArray) os) :
 ∃ h2, FnX P g (.os id ver 0 n :: rest) h (.tup []) h2 ∧ Mem h2 (⟨.os id ver 0 n, ty, sz, es'⟩ :: R) := by
 obtain ⟨hcn, hn, cs, hcs, hb⟩ := M.atF (k := 0) rfl
 rw [e1] at hcs
 simp only [Option.some.injEq] at hcs
 subst hcs
 refine ⟨hput h id (.cells ver ty true (us'.map .sc)), ⟨he, fun w0 F0 x cargs R0 hv => ?_⟩, ?_⟩
 ·cases cargs with
  | nil => simp [VRV] at hv
  | cons u cr =>
    simp only [VRV] at hv
    obtain ⟨hu, hrest⟩ := hv
    have hcr := hr x cr hrest
    subst hcr
    simp only [AsVal, PV.isAgg, VRC, List.cons.injEq, and_true] at hu
    obtain ⟨b, cap, hj, rfl, -, -, -⟩ := hu
    obtain ⟨cur, hcur, hcl, hvr⟩ := kn R0 hb hj
    have htk := VRL_sc_eq hvr
    simp only [List.length_map] at hcl htk
    have hblt : b < x.w.heap.size := (R0.own id ver b hj).2
    refine (H x.w b cap hblt (az2 hcur htk)).mono ?_
    rintro e w' ⟨rfl, q, os, hw⟩
    have hw2 : w' = Go.Sort.grow (Go.Sort.ahead (x.w.setRow b (us' ++ cur.toList.drop us'.length).toArray) q) os := by
     rw [hw, Go.Sort.putRow_ahead, au2 hcur (by omega)]
    have hvl : VRL P x (us'.map .sc) ((us' ++ cur.toList.drop us'.length).toArray.toList.take (us'.map PV.sc).length) := by
     simp only [List.length_map, List.take_left']
     exact VRL_sc P x us' (by rw [List.all_eq_true]; exact h1)
    obtain ⟨R1, E1⟩ := R0.setOwn (us := (us' ++ cur.toList.drop us'.length).toArray) hb hj hcur (by simp; omega) (by simp) hvl (.inl ⟨rfl, rfl⟩) (bl' := h.bl.set id (.cells ver ty true (us'.map .sc))) tz
    generalize hy1 : (⟨x.w.setRow b (us' ++ cur.toList.drop us'.length).toArray, x.F, updJ x.J id ver b⟩ : Cx) = y1 at R1 E1
    have hyw : y1.w = x.w.setRow b (us' ++ cur.toList.drop us'.length).toArray := by rw [← hy1]
    have G : Grow y1 ⟨w', y1.F, y1.J⟩ := by
     refine ⟨⟨⟨?_, ?_, ?_, ?_, fun k hk => ?_⟩, ?_⟩, rfl, fun _ h => h, fun _ h => .inl h⟩
     ·rw [hw2, hyw]; rfl
     ·rw [hw2, hyw]; rfl
     ·rw [hw2, hyw]; rfl
     ·rw [hw2, hyw]; simp [Go.Sort.grow, Go.Sort.ahead]
     ·rw [hw2, hyw]
      rw [hyw] at hk
      simp only [Go.Sort.grow, Go.Sort.ahead]
      rw [Array.getElem?_append_left hk]
     ·rw [hw2, hyw]; exact ah3 (Nat.le_add_right _ _)
    exact ⟨.tuple #[], .tup [], _, ⟨w', y1.F, y1.J⟩, rfl, rfl, ⟨rfl, rfl⟩, R1.grow G, E1.trans (R1.ext_of_grow G), ⟨[], rfl, by simp [VRV]⟩⟩
 ·refine M.upd (k := 0) rfl ⟨hc', by rw [hn, hes], _, e2, tj _ _ _ (oo hb)⟩ (fun i hi => .inl hi) fun i hi hne => ?_
  exact ly _ _ _ _ fun e => hne (by simp [idOf, e])
theorem bw1 {g : FuncId} (he : Enters P g) {R : List Ent} {a : PV} {rest : List PV} {crest : List Value} (M : Mem h (⟨a, ty, sz, []⟩ :: R)) (ne : isL a = true) (hr : ∀ x cargs, VRV P x rest cargs → cargs = crest)
 (H : ∀ (w : World) (p : Option Addr) (cap : Nat), Calls P g (.slice p 0 cap :: crest).toArray w fun e w' => e = .returned (.tuple #[]) ∧ w' = w) : FnX P g (a :: rest) h (.tup []) h := by
 have HE := M.at (k := 0) rfl
 refine ⟨he, fun w0 F0 x cargs R0 hv => ?_⟩
 cases cargs with
 | nil => simp [VRV] at hv
 | cons u cr =>
   simp only [VRV] at hv
   obtain ⟨hu, hrest⟩ := hv
   have hcr := hr x cr hrest
   subst hcr
   have key : ∃ p cap, u = .slice p 0 cap := by
    have H2 := HE.2
    unfold EntV at H2
    split at H2
    ·rename_i hv'; simp only at hv'; rw [hv'] at ne; cases ne
    ·rename_i id ver n hv'
     simp only at hv' H2
     subst hv'
     obtain ⟨hn, _⟩ := H2
     have : n = 0 := hn
     subst this
     simp only [AsVal, PV.isAgg, VRC, List.cons.injEq, and_true] at hu
     obtain ⟨b, cap, -, rfl, -⟩ := hu
     exact ⟨_, _, rfl⟩
    ·rename_i ad hv'
     simp only at hv'
     subst hv'
     exact ⟨_, _, pj hu⟩
    ·rename_i es' hv'
     simp only at hv' H2
     subst hv' H2
     simp only [AsVal, PV.isAgg, VRC, List.cons.injEq, and_true, List.length_nil] at hu
     obtain ⟨b, o, cap, sz, rfl, -⟩ := hu
     exact ⟨_, _, rfl⟩
    ·rename_i hv'; simp only at hv'; rw [hv'] at ne; cases ne
    ·exact H2.elim
   obtain ⟨p, cap, rfl⟩ := key
   refine (H x.w p cap).mono ?_
   rintro e w' ⟨rfl, rfl⟩
   exact ⟨.tuple #[], .tup [], h, x, rfl, rfl, ⟨rfl, rfl⟩, R0, Ext.refl x, ⟨[], rfl, by simp [VRV]⟩⟩
theorem tm {α : Type} {mk : α → PV} {enc : α → List Value} (hm : ∀ x, (mk x).cellsOf = some ((enc x).map .sc)) : ∀ (l : List α), rowCells (l.map mk) = some ((l.flatMap enc).map .sc)
 | [] => rfl
 | x :: l => by simp only [List.map_cons, rowCells, hm, tm hm l, List.flatMap_cons, List.map_append]
theorem au9 {α : Type} {R : α → PV → Prop} {mk : α → PV} (hR : ∀ x v, R x v → v = mk x) : ∀ {l : List α} {es : List PV}, All2 R l es → es = l.map mk
 | [], [], _ => rfl
 | [], _ :: _, h => by simp [All2] at h
 | _ :: _, [], h => by simp [All2] at h
 | x :: l, e :: es, h => by rw [List.map_cons, hR x e h.1, ← au9 hR h.2]
theorem ax2 {α : Type} {R : α → PV → Prop} {mk : α → PV} (hR : ∀ x, R x (mk x)) : ∀ (l : List α), All2 R l (l.map mk)
 | [] => trivial
 | x :: l => ⟨hR x, ax2 hR l⟩
theorem ag9 {α : Type} {enc : α → List Value} {k : Nat} (hk : ∀ x, (enc x).length = k) : ∀ (l : List α), (l.flatMap enc).length = l.length * k
 | [] => by simp
 | x :: l => by rw [List.flatMap_cons, List.length_append, hk, ag9 hk l, List.length_cons, Nat.succ_mul]; omega
theorem bt5 {α : Type} {t : TR α} {mk : α → PV} {enc : α → List Value} {g : FuncId} (he : Enters P g) (hR : ∀ x v, t.R x v → v = mk x) (hR2 : ∀ x, t.R x (mk x)) (hm : ∀ x, (mk x).cellsOf = some ((enc x).map .sc)) (hk : ∀ x, (enc x).length = t.sz) (h1 : ∀ x, ∀ u ∈ enc x, u.oneCell' = true) {l l' : List α} (hll : l'.length = l.length)
 {a : PV} {es : List PV} {R : List Ent} {rest : List PV} {crest : List Value} (hr : ∀ x cargs, VRV P x rest cargs → cargs = crest) (q : All2 t.R l es) (ne : isL a = true) (wi : Wri a es) (M : Mem h (⟨a, ty, t.sz, es⟩ :: R))
 (H0 : l = [] → ∀ (w : World) (p : Option Addr) (cap : Nat), Calls P g (.slice p 0 cap :: crest).toArray w fun e w' => e = .returned (.tuple #[]) ∧ w' = w)
 (H : ∀ (w : World) (b cap : Nat), b < w.heap.size → Go.Sort.Holds (_root_.id : Value → Value) w b 0 (l.flatMap enc).toArray → Calls P g (.slice (some ⟨b, 0, none⟩) l.length cap :: crest).toArray w fun e w' => e = .returned (.tuple #[]) ∧ ∃ q os, w' = Go.Sort.grow (Go.Sort.putRow (_root_.id : Value → Value) (Go.Sort.ahead w q) b 0 (l'.flatMap enc).toArray) os) :
 ∃ r h2, FnX P g (a :: rest) h r h2 ∧ ∃ es', Mem h2 (⟨a, ty, t.sz, es'⟩ :: R) ∧ All2 t.R l' es' ∧ Wri a es' ∧ r = .tup [] := by
 have hes := au9 hR q
 rcases wi with rfl | ⟨id, ver, n, rfl⟩
 ·have hl0 : l = [] := by
   cases l with
   | nil => rfl
   | cons _ _ => simp at hes
  have hl0' : l' = [] := by
   cases l' with
   | nil => rfl
   | cons _ _ => rw [hl0] at hll; simp at hll
  subst hl0'
  exact ⟨_, h, bw1 he M ne hr (H0 hl0), [], M, trivial, .inl rfl, rfl⟩
 ·have hn : n = l.length := by rw [qr M (k := 0) rfl, All2.length_eq q]
  subst hn
  obtain ⟨h2, X, M2⟩ := cm7 (es' := l'.map mk) (us := l.flatMap enc) (us' := l'.flatMap enc) he M (by rw [hes]; exact tm hm l) (tm hm l') (fun x hx => by
   obtain ⟨y, _, rfl⟩ := List.mem_map.1 hx
   exact t.cnt (hR2 y)) (by rw [ag9 hk, ag9 hk, hll]) (by rw [List.length_map, hll, hes, List.length_map]) (fun u hu => by
   obtain ⟨y, _, hy⟩ := List.mem_flatMap.1 hu
   exact h1 y u hy) hr H
  exact ⟨_, h2, X, _, M2, ax2 hR2 l', .inr ⟨_, _, _, rfl⟩, rfl⟩
theorem at1 (l : List Int) : l.flatMap (fun z => [Value.int .i64 z]) = l.map (Value.int .i64) := by
 induction l with
 | nil => rfl
 | cons x l ih => rw [List.flatMap_cons, ih]; rfl
theorem bp8 {w : World} {b : Nat} {l : List Int} (H : Go.Sort.Holds (_root_.id : Value → Value) w b 0 (l.map (Value.int .i64)).toArray) : Go.Sort.Holds (Value.int .i64) w b 0 l.toArray := fun j hj => by
 have hj' : j < l.length := by simpa using hj
 have := H j (by simpa using hj')
 simpa [hj'] using this
theorem ax6 {w : World} {b : Nat} {l : List Int} : Go.Sort.putRow (Value.int .i64) w b 0 l.toArray = Go.Sort.putRow (_root_.id : Value → Value) w b 0 (l.map (Value.int .i64)).toArray := by
 unfold Go.Sort.putRow
 refine Go.Sort.mapBlock_congr _ _ _ _ fun c _ _ _ => ?_
 unfold Go.Sort.putCells
 apply Array.ext
 ·simp
 ·intro j h1 h2
  simp only [Array.getElem_mapIdx, List.size_toArray, List.length_map, Nat.zero_le, true_and, Nat.zero_add, Nat.sub_zero, id]
  split
  ·rename_i hj; simp [hj]
  ·rfl
theorem ay9 {g : FuncId} (he : Enters P g)
 (H : ∀ (blk off cap : Nat) (zs : List Int) (w : World), Go.Sort.Holds (Value.int .i64) w blk off zs.toArray → blk < w.heap.size → zs.length < 4611686018427387904 → Calls P g #[.slice (some ⟨blk, off, none⟩) zs.length cap] w fun e w' => e = .returned (.tuple #[]) ∧ ∃ n os, w' = Go.Sort.grow (Go.Sort.putRow (Value.int .i64) (Go.Sort.ahead w n) blk off (zs.mergeSort fun x y => decide (x ≤ y)).toArray) os)
 (H0 : ∀ (p : Option Addr) (cap : Nat) (w : World), Calls P g #[.slice p 0 cap] w fun e w' => e = .returned (.tuple #[]) ∧ w' = w)
 {l : List Int} {a : PV} {es : List PV} {R : List Ent} (q : All2 tI.R l es) (ne : isL a = true) (hl : l.length ≤ 1000000) (wi : Wri a es) (M : Mem h (⟨a, ty, 1, es⟩ :: R)) :
 ∃ r h2, FnX P g [a] h r h2 ∧ ∃ es', Mem h2 (⟨a, ty, 1, es'⟩ :: R) ∧ All2 tI.R (l.mergeSort fun x y => decide (x ≤ y)) es' ∧ Wri a es' ∧ r = .tup [] := by
 refine bt5 (t := tI) (mk := vi) (enc := fun z => [Value.int .i64 z]) (crest := []) he (fun x v h => h) (fun x => rfl) (fun x => rfl) (fun x => rfl) (fun x u hu => by simp at hu; subst hu; rfl) (List.length_mergeSort _) (fun x cargs hv => by cases cargs with
  | nil => rfl
  | cons _ _ => simp [VRV] at hv) q ne wi M (fun _ w p cap => H0 p cap w) fun w b cap hb hh => ?_
 rw [at1] at hh
 refine (H b 0 cap l w (bp8 hh) hb (by omega)).mono ?_
 rintro e w' ⟨rfl, n, os, rfl⟩
 exact ⟨rfl, n, os, by rw [at1, ax6]⟩
end
end Go.Pb
set_option linter.unusedVariables false
set_option linter.unusedSimpArgs false
namespace Go.Pb
open Go Go.RowKit Go.Sort Go.Proofs
section
variable {P : Program} {h : Heap} {ty : TypeId} {α : Type} [Inhabited α]
theorem aw7 {enc : α → List Value} {k : Nat} (hk : ∀ x, (enc x).length = k) (l : List α) : flatK enc k l.toArray = (l.flatMap enc).toArray := by
 rcases Nat.eq_zero_or_pos k with h0 | hpos
 ·subst h0
  have : l.flatMap enc = [] := by
   rw [List.flatMap_eq_nil_iff]
   exact fun x _ => List.eq_nil_of_length_eq_zero (hk x)
  rw [this]
  simp [flatK]
 ·have key : ∀ m, m ≤ l.length → (List.range (m * k)).map (fun t => (enc l.toArray[t / k]!)[t % k]!) = (l.take m).flatMap enc := by
   intro m
   induction m with
   | zero => intro _; simp
   | succ m ih =>
     intro hm
     rw [Nat.succ_mul, List.range_add, List.map_append, ih (by omega), List.take_add_one, List.flatMap_append, List.getElem?_eq_getElem (by omega)]
     congr 1
     simp only [Option.toList_some, List.flatMap_cons, List.flatMap_nil, List.append_nil, List.map_map]
     apply List.ext_getElem
     ·simp [hk]
     ·intro j h1 h2
      simp only [List.length_map, List.length_range] at h1
      simp only [List.getElem_map, List.getElem_range, Function.comp_apply]
      have e1 : (m * k + j) / k = m := by rw [Nat.mul_comm, Nat.mul_add_div hpos, Nat.div_eq_of_lt h1, Nat.add_zero]
      have e2 : (m * k + j) % k = j := by rw [Nat.mul_comm, Nat.mul_add_mod, Nat.mod_eq_of_lt h1]
      rw [e1, e2]
      have hml : m < l.length := by omega
      simp [hml, hk, h1]
  apply Array.ext'
  have := key l.length (Nat.le_refl _)
  rw [List.take_length] at this
  simpa [flatK] using this
theorem dh3 {mk : α → PV} {enc : α → List Value} {k : Nat} {cf : α → α → Int} {gc : FuncId} (hmk : ∀ x, mk x = .agg ((enc x).map .sc)) (h1 : ∀ x, ∀ u ∈ enc x, u.oneCell' = true) (HC : ∀ x y, FnR P gc [mk x, mk y] (vi (cf x y))) (blk off size : Nat) (w : World) : CmpLays P gc #[] enc k cf blk off size w := by
 intro m os dk hd x y
 generalize sortWorldK enc k w blk off m dk os = W
 have hv : VRV P ⟨W, fun _ => False, noJ⟩ [mk x, mk y] [.agg (enc x).toArray, .agg (enc y).toArray] := by
  have hone : ∀ z, AsVal (mk z).isAgg (VRC P ⟨W, fun _ => False, noJ⟩ (mk z)) (.agg (enc z).toArray) := fun z => by
   rw [hmk]
   exact ⟨enc z, rfl, by simp only [VRC]; exact VRL_sc P _ _ (by rw [List.all_eq_true]; exact h1 z)⟩
  simp only [VRV]
  exact ⟨hone x, hone y, trivial⟩
 refine ((HC x y).2 W (fun _ => False) _ (fun b hb => hb.elim) hv).mono ?_
 rintro e w' ⟨v, z, rfl, rfl, G, hr⟩
 have hr' := pj hr
 subst hr'
 refine ⟨rfl, z.w.drawn - W.drawn, z.w.heap.extract W.heap.size z.w.heap.size, ?_⟩
 have hb := G.below
 have hh : z.w.heap = W.heap ++ z.w.heap.extract W.heap.size z.w.heap.size := by
  apply Array.ext_getElem?
  intro j
  rw [Array.getElem?_append]
  split
  ·rename_i hj
   exact hb.block j hj
  ·rename_i hj
   rw [Array.getElem?_extract]
   have hs : W.heap.size ≤ z.w.heap.size := hb.size
   by_cases hj2 : j < z.w.heap.size
   ·rw [if_pos (by omega)]
    congr 1
    omega
   ·rw [if_neg (by omega), Array.getElem?_eq_none (by omega)]
 have hd' : z.w.drawn = W.drawn + (z.w.drawn - W.drawn) := by have hq := hb.dr; unfold dle at hq; have hq' : W.drawn ≤ z.w.drawn := hq; clear hq; omega
 have e1 := hb.os
 have e2 := hb.tape
 have e3 := hb.output
 obtain ⟨zw, zF, zJ⟩ := z
 obtain ⟨zh, zt, zd, zo, zu⟩ := zw
 simp only at hh hd' e1 e2 e3 ⊢
 subst e1 e2 e3
 unfold grow World.drewN
 simp only [World.mk.injEq, and_true, true_and]
 exact ⟨hh, hd'⟩
theorem ak6 {t : TR α} {mk : α → PV} {enc : α → List Value} {cf : α → α → Int} {g gc : FuncId} (he : Enters P g) (hR : ∀ x v, t.R x v → v = mk x) (hR2 : ∀ x, t.R x (mk x)) (hmk : ∀ x, mk x = .agg ((enc x).map .sc)) (hk : ∀ x, (enc x).length = t.sz) (h1 : ∀ x, ∀ u ∈ enc x, u.oneCell' = true)
 (HC : ∀ x y, FnR P gc [mk x, mk y] (vi (cf x y)))
 (H : ∀ (blk off cap : Nat) (d : Array α) (w : World), CmpLays P gc #[] enc t.sz cf blk off d.size w → HoldsK enc t.sz w blk off d → blk < w.heap.size → d.size < 4611686018427387904 → Calls P g #[.slice (some ⟨blk, off, none⟩) d.size cap, .func (.func gc) #[] #[]] w fun e w' => e = .returned (.tuple #[]) ∧ ∃ n os, w' = sortWorldK enc t.sz w blk off n (d.toList.mergeSort fun x y => !(ltOf cf) y x).toArray os)
 (H0 : ∀ (p : Option Addr) (cap : Nat) (w : World), Calls P g #[.slice p 0 cap, .func (.func gc) #[] #[]] w fun e w' => e = .returned (.tuple #[]) ∧ w' = w)
 {l : List α} {a : PV} {es : List PV} {R : List Ent} (q : All2 t.R l es) (ne : isL a = true) (hl : l.length ≤ 1000000) (wi : Wri a es) (M : Mem h (⟨a, ty, t.sz, es⟩ :: R)) :
 ∃ r h2, FnX P g [a, .fn (.func gc) [] []] h r h2 ∧ ∃ es', Mem h2 (⟨a, ty, t.sz, es'⟩ :: R) ∧ All2 t.R (l.mergeSort fun x y => !(ltOf cf) y x) es' ∧ Wri a es' ∧ r = .tup [] := by
 refine bt5 (mk := mk) (enc := enc) (crest := [.func (.func gc) #[] #[]]) he hR hR2 (fun x => by rw [hmk]; rfl) hk h1 (List.length_mergeSort _) (fun x cargs hv => ?_) q ne wi M (fun _ w p cap => H0 p cap w) fun w b cap hb hh => ?_
 ·match cargs, hv with
  | [], hv => simp [VRV] at hv
  | [u], hv =>
    simp only [VRV, AsVal, PV.isAgg, VRC, List.cons.injEq, and_true] at hv
    obtain ⟨fs, cs, rfl, h2, h3⟩ := hv
    cases fs with
    | nil => cases cs with
      | nil => rfl
      | cons _ _ => simp [VRV] at h3
    | cons _ _ => simp [VRV] at h2
  | _ :: _ :: _, hv => simp [VRV] at hv
 ·have hh2 : HoldsK enc t.sz w b 0 l.toArray := by
   unfold HoldsK
   rw [aw7 hk]
   exact hh
  have hc := H b 0 cap l.toArray w (dh3 hmk h1 HC _ _ _ _) hh2 hb (by simp; omega)
  simp only [List.size_toArray] at hc
  refine hc.mono ?_
  rintro e w' ⟨rfl, n, os, rfl⟩
  exact ⟨rfl, n, os, by unfold sortWorldK putRowK; rw [aw7 hk]⟩
end
end Go.Pb
set_option linter.unusedVariables false
set_option linter.unusedSimpArgs false
set_option linter.unusedSectionVars false
namespace Go.Pb
open Go Go.RowKit
section
variable {α : Type} [Inhabited α] [DecidableEq α] {lt : α → α → Bool}
structure STO {α : Type} (lt : α → α → Bool) : Prop where
 irr : ∀ x, lt x x = false
 trans : ∀ x y z, lt x y = true → lt y z = true → lt x z = true
 total : ∀ x y, lt x y = false → lt y x = false → x = y
def insS {α : Type} [DecidableEq α] (lt : α → α → Bool) (x : α) : List α → List α
 | [] => [x]
 | y :: l => if lt y x = true then y :: insS lt x l else if y = x then y :: l else x :: y :: l
theorem bf4 {s : List α} : ∀ (m : Nat), m ≤ s.length → ∀ y, y ∈ cpF s m ↔ y ∈ s.take m
 | 0, _, y => by simp [cpF]
 | m + 1, hm, y => by
   have ih := bf4 (s := s) m (by omega) y
   rw [yu (by omega), List.mem_append, List.mem_singleton, ← ih]
   by_cases hc : m = 0 ∨ ix s (m : Int) ≠ ix s ((m : Int) - 1)
   ·rw [ti hc, List.mem_append, List.mem_singleton]
   ·rw [yz (by omega) (by
     by_cases he : ix s (m : Int) = ix s ((m : Int) - 1)
     ·exact he
     ·exact absurd (.inr he) hc)]
    constructor
    ·exact .inl
    ·rintro (h | rfl)
     ·exact h
     ·rw [ih]
      have hm0 : m ≠ 0 := fun e => hc (.inl e)
      have he : ix s (m : Int) = ix s ((m : Int) - 1) := by
       by_cases he : ix s (m : Int) = ix s ((m : Int) - 1)
       ·exact he
       ·exact absurd (.inr he) hc
      rw [he, show ((m : Int) - 1) = ((m - 1 : Nat) : Int) by omega, ah7 (l := s) (i := m - 1) (by omega)]
      rw [List.mem_take_iff_getElem]
      exact ⟨m - 1, (by omega : m - 1 < min m s.length), rfl⟩
theorem sh {s : List α} (y : α) : y ∈ cpt s ↔ y ∈ s := by
 unfold cpt
 rw [bf4 _ (Nat.le_refl _), List.take_length]
end
end Go.Pb
set_option linter.unusedVariables false
set_option linter.unusedSimpArgs false
namespace Go.Pb
open Go Go.RowKit
theorem qa : (∀ a b : Bool, ((a || b) = true) = (a = true ∨ b = true)) ∧ (∀ a b : Bool, (a || b) = false ↔ a = false ∧ b = false) ∧ (∀ a b : Bool, ((a && b) = true) = (a = true ∧ b = true)) ∧ (∀ a b : Bool, (a && b) = false ↔ (a = true → b = false)) ∧ (∀ (p : Prop) [Decidable p], (decide p = true) = p) ∧ (∀ (p : Prop) [Decidable p], decide p = false ↔ ¬p) ∧ (∀ a : Bool, ((!a) = true) = (a = false)) ∧ (∀ a : Bool, ((!a) = false) = (a = true)) ∧ (∀ a : Bool, (¬a = true) = (a = false)) ∧ (∀ a : Bool, (¬a = false) = (a = true)) ∧ ((!true) = false) ∧ ((!false) = true) ∧ (∀ n : Nat, Int.ofNat n = (n : Int)) ∧ (∀ n : Nat, Int.negSucc n = -((n : Int) + 1)) ∧ (∀ (α : Type) (a b : α), (a ≠ b) = ¬a = b) :=
 ⟨Bool.or_eq_true, fun _ _ => Bool.or_eq_false_iff, Bool.and_eq_true, fun _ _ => Bool.and_eq_false_imp, fun _ _ => decide_eq_true_eq, fun _ _ => decide_eq_false_iff_not, Bool.not_eq_true', Bool.not_eq_false', Bool.not_eq_true, Bool.not_eq_false, rfl, rfl, fun _ => rfl, fun _ => Int.negSucc_eq _, fun _ a b => ne_eq a b⟩
theorem sB {E : TEnv} : ∀ {E0 : TEnv}, E0.map (fun p => look p.1 E) = E0.map (fun p => some p.2) → SubE E E0
 | [], _ => od E
 | (d, v) :: r, h => by
   simp only [List.map_cons, List.cons.injEq] at h
   exact fg h.1 (sB h.2)
def cO (P : Program) (own : List Tmp) (n : Nat) (f : Func) : AC := (compC P own n (f.body.getD .skip)).getD .skip
def loops : AC → List AC
 | .seq a b => loops a ++ loops b
 | .cond _ a b => loops a ++ loops b
 | .block _ b => loops b
 | .scope b => loops b
 | .loop b => b :: loops b
 | _ => []
def lP (k : Nat) (c : AC) : AC := (loops c).getD k .skip
abbrev rdc (c w : AC) (h : c = w) : AC := w
theorem tX {P : Program} {f : FuncId} {own : List Tmp} {n np : Nat} {ac : AC} {rs : List (Tmp × Option (Nat × Bool))} {fn : Func} (e : Enters P f) (fo : P.follows .mixedOrders = true) (h : P.funcs[f]? = some fn)
 (hb : fn.body = some (fn.body.getD .skip)) (hn : fn.ntmps = n) (hp : np ≤ n) (hc : compC P own n (fn.body.getD .skip) = some ac) (hr : compRes P fn.results.toList = some rs) : FnText P f own n np ac rs :=
 ⟨e, fo, fn, _, h, hb, hn, hp, hc, hr⟩
section
variable {P : Program} {S : List Fr} {Q : Post} {E E0 : TEnv} {h h' : Heap} {op : AOp} {hf hf2 : Bool} {v : PV} {r l : List AOper} {d d2 t : Nat} {f : Operand} {args : List Operand} {w b : Bool}
theorem wC {c : AC} (k : RC P c S Q E0 h) (s : E0.map (fun p => look p.1 E) = E0.map (fun p => some p.2)) : RC P c S Q E h := pf (sB s) k
theorem wP {id : Nat} (k : PX P id S Q E0 h) (s : E0.map (fun p => look p.1 E) = E0.map (fun p => some p.2)) : PX P id S Q E h := xr (sB s) k
theorem wD {l : List AOper} (k : RD P l S Q E0 h) (s : E0.map (fun p => look p.1 E) = E0.map (fun p => some p.2)) : RD P l S Q E h := ao3 (sB s) k
theorem ci {α : Type} {c : Operand} {a b : AC} {v : Bool} {x y r : α} (hres : (if v = true then x else y) = r) (hc : evE E c = some (vb v)) (h1 : v = true → x = r → RC P a S Q E h) (h2 : v = false → y = r → RC P b S Q E h) : RC P (.cond c a b) S Q E h :=
 cj hc (fun e => h1 e ((ce4 e).symm.trans hres)) (fun e => h2 e ((bu2 e).symm.trans hres))
theorem fnS {f : FuncId} {own : List Tmp} {n np : Nat} {ac : AC} {rs : List (Tmp × Option (Nat × Bool))} {args : List PV} {α : Type} {e : α} {v : PV} {R : α → PV → Prop} (X : FnText P f own n np ac rs)
 (hr : ∀ r, R e r → r = v) (hn : Nat.ble args.length np = true) (H : ∀ res, e = res → RC P ac [] (QR P rs (R res)) (argE 0 args) ⟨0, []⟩) : FnR P f args v := by
 obtain ⟨r, h1, h2⟩ := fnE X (Nat.le_of_ble_eq_true hn) (H e rfl)
 rw [← hr r h2]; exact h1
theorem fnT {f : FuncId} {own : List Tmp} {n np : Nat} {ac : AC} {rs : List (Tmp × Option (Nat × Bool))} {args : List PV} {α : Type} {e : α} {R : α → PV → Prop} (X : FnText P f own n np ac rs)
 (hn : Nat.ble args.length np = true) (H : ∀ res, e = res → RC P ac [] (QR P rs (R res)) (argE 0 args) ⟨0, []⟩) : ∃ r, FnR P f args r ∧ R e r := fnE X (Nat.le_of_ble_eq_true hn) (H e rfl)
theorem fnXX {f : FuncId} {own : List Tmp} {n np : Nat} {ac : AC} {rs : List (Tmp × Option (Nat × Bool))} {args : List PV} {α : Type} {e : α} {R : α → PV → Heap → Prop} (X : FnText P f own n np ac rs)
 (hn : Nat.ble args.length np = true) (H : ∀ res, e = res → RC P ac [] (retPost P rs (R res)) (argE 0 args) h) : ∃ r h', FnX P f args h r h' ∧ R e r h' := fnX X (Nat.le_of_ble_eq_true hn) (H e rfl)
theorem aL {α : Type} {R : α → PV → Prop} : All2 R [] [] := trivial
theorem rR {α : Type} {t : Tmp} {R : α → PV → Prop} {e res : α} {v : PV} (hres : e = res) (hv : look t E = some v) (hc : closed v = true) (hr : R e v) : RC P .ret S (QR P [(t, none)] (R res)) E h := by
 subst hres; exact fy (.tmp hv .nil) (cv hc) hr
theorem rT {α : Type} {t t' : Tmp} {R : α → PV → Prop} {e res : α} {v v' : PV} (hres : e = res) (hv : look t E = some v) (hv' : look t' E = some v') (hc : closed v = true) (hc' : closed v' = true) (hr : R e (.tup [v, v'])) : RC P .ret S (QR P [(t, none), (t', none)] (R res)) E h := by
 subst hres; exact fy (.tmp hv (.tmp hv' .nil)) (cv (show closed (.tup _) = true from ai hc (ai hc' bg))) hr
theorem sR {d : Bool} {al : List AOper} {b : AC} (k : RD P al (.seq b :: S) Q E h) : RC P (.seq (.region d al) b) S Q E h := aq (ax k)
theorem nS {b : AC} (k : RC P b S Q E h) : RD P [] (.seq b :: S) Q E h := k
theorem nR {d : Bool} {al : List AOper} {b : AC} (k : RD P al (.seq b :: S) Q E h) : RD P [] (.seq (.seq (.region d al) b) :: S) Q E h := bp (am (sR k))
theorem mV {x : Operand} {a : PV} (ex : evE E x = some a) (k : RD P r S Q ((d, a) :: E) h) : RD P (⟨some d, .move x, none, hf⟩ :: r) S Q E h := ab (au ex) k
theorem mI {x : Operand} {n : Int} (ex : evE E x = some (vi n)) (k : RD P r S Q ((d, vi n) :: E) h) : RD P (⟨some d, .move x, none, hf⟩ :: r) S Q E h := ab (au ex) k
theorem mB {x : Operand} {n : Bool} (ex : evE E x = some (vb n)) (k : RD P r S Q ((d, vb n) :: E) h) : RD P (⟨some d, .move x, none, hf⟩ :: r) S Q E h := ab (au ex) k
theorem bN {op : BinOp} {t : TypeId} {x y : Operand} {a b v : PV} (hb : binF P op t x y a b = some v) (ex : evE E x = some a) (ey : evE E y = some b) (k : RD P r S Q ((d, v) :: E) h) : RD P (⟨some d, .bin op t x y, none, hf⟩ :: r) S Q E h := ab (bz ex ey hb) k
theorem xT {x : Operand} {vs : List PV} {k : Nat} {v : PV} (ex : evE E x = some (.tup vs)) (hk : vs[k]? = some v) (K : RD P r S Q ((d, v) :: E) h) : RD P (⟨some d, .extract x k, none, hf⟩ :: r) S Q E h := ab (xl ex hk) K
theorem fA {x : Operand} {a w : PV} {off sz : Nat} {agg : Bool} (ex : evE E x = some (.fp a)) (hw : fieldR off sz agg a = some w) (k : RD P r S Q ((d, .fp w) :: E) h) : RD P (⟨some d, .faddr off sz agg x, none, hf⟩ :: r) S Q E h := ab (cd ex hw) k
theorem lD {α : Type} {t : TR α} {s : α} {a : PV} {x : Operand} {sz : Nat} {agg : Bool} (q : t.R s a) (ex : evE E x = some (.fp a)) (h1 : t.sz = sz) (h2 : t.ag = agg) (k : RD P r S Q ((d, a) :: E) h) : RD P (⟨some d, .load sz agg x, none, hf⟩ :: r) S Q E h := ab (ca ex (by rw [TR.cnt t q, h1]) (by rw [TR.agg t q, h2])) k
theorem lR {a : PV} {x : Operand} {sz : Nat} {agg : Bool} (ex : evE E x = some (.fp a)) (h1 : cnt a = some sz) (h2 : a.isAgg = agg) (k : RD P r S Q ((d, a) :: E) h) : RD P (⟨some d, .load sz agg x, none, hf⟩ :: r) S Q E h := ab (ca ex h1 h2) k
theorem fL {x : Operand} {a w : PV} {off sz sz2 : Nat} {agg agg2 : Bool} (ex : evE E x = some (.fp a)) (hw : fieldR off sz agg a = some w) (h1 : cnt w = some sz2) (h2 : w.isAgg = agg2) (k : RD P r S Q ((d2, w) :: (d, .fp w) :: E) h) : RD P (⟨some d, .faddr off sz agg x, none, hf⟩ :: ⟨some d2, .load sz2 agg2 (.tmp d), none, hf2⟩ :: r) S Q E h :=
 ab (cd ex hw) (ab (ca (by simp only [evE, look, Nat.beq_refl, cond_true]) h1 h2) k)
theorem gL {β : Type} {t : TR β} {y : β} {x : Operand} {a : PV} {off sz sz2 : Nat} {agg agg2 : Bool} (g : ∃ w, fieldR off sz agg a = some w ∧ t.R y w) (ex : evE E x = some (.fp a)) (h1 : t.sz = sz2) (h2 : t.ag = agg2) (k : ∀ w, t.R y w → RD P r S Q ((d2, w) :: (d, .fp w) :: E) h) : RD P (⟨some d, .faddr off sz agg x, none, hf⟩ :: ⟨some d2, .load sz2 agg2 (.tmp d), none, hf2⟩ :: r) S Q E h := by
 obtain ⟨w, e, q⟩ := g
 exact fL ex e (by rw [TR.cnt t q, h1]) (by rw [TR.agg t q, h2]) (k w q)
theorem cL {g : FuncId} {a1 : List PV} {v : PV} (hfn : FnR P g a1 v) (ef : evE E f = some (.fn (.func g) [] [])) (ea : evL E args = some a1) (hc : closedL a1 = true) (k : RD P r S Q ((d, v) :: E) h) : RD P (⟨some d, .call f args, none, hf⟩ :: r) S Q E h := rv (si ef ea hc hfn) k
theorem cn (n : Nat) {d : Nat} {v : PV} (H : ∀ (S : List Fr) (Q : Post) (r : List AOper), RD P r S Q ((d, v) :: E) h → RD P (l.take n ++ r) S Q E h) (k : RD P (l.drop n) S Q ((d, v) :: E) h) : RD P l S Q E h := by
 rw [← List.take_append_drop n l]; exact H S Q _ k
theorem gK {c x y : Operand} {u a b v : PV} (ec : evE E c = some u) (ex : evE E x = some a) (ey : evE E y = some b) (hp : pickR u a b = some v) (s : E0.map (fun p => look p.1 ((d, v) :: E)) = E0.map (fun p => some p.2)) (k : RD P r S Q E0 h) : RD P (⟨some d, .pick c x y, none, hf⟩ :: r) S Q E h :=
 ab (qx ec ex ey hp) (ao3 (sB s) k)
def skipE : Nat → TEnv → List AOper → Option (TEnv × List AOper)
 | 0, E, l => some (E, l)
 | n + 1, E, ⟨some d, op, some (t, w), hf⟩ :: r => match look t E with
   | some (.sc (.bool b)) => if b = w then none else skipE n ((d, .tup []) :: E) r
   | some (.tup []) => skipE n ((d, .tup []) :: E) r
   | _ => none
 | _, _, _ => none
theorem skips : ∀ (n : Nat) {E E1 : TEnv} {l l1 : List AOper}, skipE n E l = some (E1, l1) → RD P l1 S Q E1 h → RD P l S Q E h
 | 0, E, E1, l, l1, e, k => by simp only [skipE, Option.some.injEq, Prod.mk.injEq] at e; obtain ⟨rfl, rfl⟩ := e; exact k
 | n + 1, E, E1, [], l1, e, k => by simp [skipE] at e
 | n + 1, E, E1, ⟨none, op, g, hf⟩ :: r, l1, e, k => by simp [skipE] at e
 | n + 1, E, E1, ⟨some d, op, none, hf⟩ :: r, l1, e, k => by simp [skipE] at e
 | n + 1, E, E1, ⟨some d, op, some (t, w), hf⟩ :: r, l1, e, k => by
   simp only [skipE] at e
   split at e
   ·rename_i b hb
    split at e
    ·cases e
    ·rename_i hne
     refine qc hb ?_ (skips n e k)
     cases b <;> cases w <;> simp_all
   ·rename_i hb
    exact cf7 hb (skips n e k)
   ·cases e
theorem gN (n : Nat) {E1 : TEnv} {c x y : Operand} {u a b v : PV} (e : skipE n E l = some (E1, ⟨some d, .pick c x y, none, hf⟩ :: r)) (ec : evE E1 c = some u) (ex : evE E1 x = some a) (ey : evE E1 y = some b) (hp : pickR u a b = some v) (s : E0.map (fun p => look p.1 ((d, v) :: E1)) = E0.map (fun p => some p.2)) (k : RD P r S Q E0 h) : RD P l S Q E h :=
 skips n e (gK ec ex ey hp s k)
end
end Go.Pb
set_option linter.unusedVariables false
set_option linter.unusedSimpArgs false
namespace Go.Pb
open Go Go.RowKit
section
variable {P : Program} {h : Heap}
theorem Mem.perm {L L' : List Ent} (M : Mem h L) (p : L.Perm L') : Mem h L' :=
 ⟨fun e he => M.ent e (p.mem_iff.2 he), (p.pairwise_iff fun {a b} hab => hab.symm).1 M.dis⟩
structure NsE {α : Type} (t : TR α) (ty : TypeId) (l : List α) (v : PV) (e : Ent) : Prop where
 ad : e.v = v
 ty : e.ty = ty
 sz : e.sz = t.sz
 el : All2 t.R l e.es
 isl : isL v = true
 len : l.length ≤ 4611686018427387904
 wri : Wri v e.es
def Ns {α : Type} (t : TR α) (ty : TypeId) : List (List α) → List PV → List Ent → Prop
 | [], [], [] => True
 | l :: ls, v :: vs, e :: es => NsE t ty l v e ∧ Ns t ty ls vs es
 | _, _, _ => False
section
variable {α : Type} {t : TR α} {ty : TypeId}
theorem Ns.len : ∀ {ls : List (List α)} {vs : List PV} {I : List Ent}, Ns t ty ls vs I → vs.length = ls.length ∧ I.length = ls.length
 | [], [], [], _ => ⟨rfl, rfl⟩
 | l :: ls, v :: vs, e :: es, h => by have := Ns.len h.2; exact ⟨by simp [this.1], by simp [this.2]⟩
 | [], [], _ :: _, h => by simp [Ns] at h
 | [], _ :: _, _, h => by simp [Ns] at h
 | _ :: _, [], _, h => by simp [Ns] at h
 | _ :: _, _ :: _, [], h => by simp [Ns] at h
theorem Ns.get : ∀ {ls : List (List α)} {vs : List PV} {I : List Ent} {k : Nat} (_ : Ns t ty ls vs I) (hk : k < ls.length), ∃ v e, vs[k]? = some v ∧ I[k]? = some e ∧ NsE t ty ls[k] v e
 | l :: ls, v :: vs, e :: es, 0, h, _ => ⟨v, e, rfl, rfl, h.1⟩
 | l :: ls, v :: vs, e :: es, k + 1, h, hk => by
   obtain ⟨w, f, h1, h2, h3⟩ := Ns.get (k := k) h.2 (by simpa using hk)
   exact ⟨w, f, by simpa using h1, by simpa using h2, by simpa using h3⟩
 | [], _, _, _, _, hk => by simp at hk
 | _ :: _, [], _, _, h, _ => by simp [Ns] at h
 | _ :: _, _ :: _, [], _, h, _ => by simp [Ns] at h
theorem Ns.set : ∀ {ls : List (List α)} {vs : List PV} {I : List Ent} {k : Nat} {l : List α} {v : PV} {e : Ent}, Ns t ty ls vs I → NsE t ty l v e → Ns t ty (ls.set k l) (vs.set k v) (I.set k e)
 | [], [], [], _, _, _, _, _, _ => trivial
 | l :: ls, v :: vs, e :: es, 0, _, _, _, h, he => ⟨he, h.2⟩
 | l :: ls, v :: vs, e :: es, k + 1, _, _, _, h, he => ⟨h.1, Ns.set h.2 he⟩
 | [], [], _ :: _, _, _, _, _, h, _ => by simp [Ns] at h
 | [], _ :: _, _, _, _, _, _, h, _ => by simp [Ns] at h
 | _ :: _, [], _, _, _, _, _, h, _ => by simp [Ns] at h
 | _ :: _, _ :: _, [], _, _, _, _, h, _ => by simp [Ns] at h
theorem Ns.app1 : ∀ {ls : List (List α)} {vs : List PV} {I : List Ent} {l : List α} {v : PV} {e : Ent}, Ns t ty ls vs I → NsE t ty l v e → Ns t ty (ls ++ [l]) (vs ++ [v]) (I ++ [e])
 | [], [], [], _, _, _, _, he => ⟨he, trivial⟩
 | l :: ls, v :: vs, e :: es, _, _, _, h, he => ⟨h.1, Ns.app1 h.2 he⟩
 | [], [], _ :: _, _, _, _, h, _ => by simp [Ns] at h
 | [], _ :: _, _, _, _, _, h, _ => by simp [Ns] at h
 | _ :: _, [], _, _, _, _, h, _ => by simp [Ns] at h
 | _ :: _, _ :: _, [], _, _, _, h, _ => by simp [Ns] at h
theorem dg4 (n : Nat) : Ns t ty (List.replicate n ([] : List α)) (List.replicate n nilS) (List.replicate n ⟨nilS, ty, t.sz, []⟩) := by
 induction n with
 | zero => trivial
 | succ n ih => exact ⟨⟨rfl, rfl, rfl, trivial, rfl, by simp, .inl rfl⟩, ih⟩
theorem au3 {L : List Ent} (M : Mem h L) (ty : TypeId) (sz : Nat) : ∀ n, Mem h (List.replicate n ⟨nilS, ty, sz, []⟩ ++ L)
 | 0 => M
 | n + 1 => nm (au3 M ty sz n) ty (.inl ⟨none, rfl, rfl⟩) (by simp)
theorem df0 {C R : List Ent} (M : Mem h (C ++ R)) (ty : TypeId) (sz n : Nat) : Mem h (C ++ (List.replicate n ⟨nilS, ty, sz, []⟩ ++ R)) :=
 (au3 M ty sz n).perm (by rw [← List.append_assoc, ← List.append_assoc]; exact List.Perm.append_right R List.perm_append_comm)
theorem ax5 {I : List Ent} {k : Nat} {e : Ent} (hk : I[k]? = some e) : I.Perm (e :: I.eraseIdx k) := by
 obtain ⟨hlt, rfl⟩ := List.getElem?_eq_some_iff.1 hk
 have h1 : I = I.take k ++ I[k] :: I.drop (k + 1) := by rw [← List.drop_eq_getElem_cons hlt, List.take_append_drop]
 have h2 : I.eraseIdx k = I.take k ++ I.drop (k + 1) := List.eraseIdx_eq_take_drop_succ ..
 rw [h2]
 exact (List.Perm.of_eq h1).trans List.perm_middle
theorem cc3 {I : List Ent} {k : Nat} {e : Ent} (hk : k < I.length) : (I.set k e).Perm (e :: I.eraseIdx k) := by
 have h1 : (I.set k e)[k]? = some e := by simp [hk]
 have h2 := ax5 h1
 rwa [List.eraseIdx_set_eq] at h2
theorem cv3 {C I R : List Ent} {k : Nat} {e : Ent} (M : Mem h (e :: (C ++ (I.eraseIdx k ++ R)))) (hk : k < I.length) : Mem h (C ++ (I.set k e ++ R)) :=
 M.perm ((List.perm_middle (l₁ := C) (l₂ := I.eraseIdx k ++ R) (a := e)).symm.trans (((cc3 hk).symm.append_right R).append_left C))
theorem cw3 [Inhabited α] {ls : List (List α)} {vs : List PV} {I : List Ent} {i : Int} (H : Ns t ty ls vs I) (h0 : 0 ≤ i) (h1 : i < ls.length) :
 ∃ v es, vs[i.toNat]? = some v ∧ I[i.toNat]? = some ⟨v, ty, t.sz, es⟩ ∧ All2 t.R (ix ls i) es ∧ isL v = true ∧ (ix ls i).length ≤ 4611686018427387904 ∧ Wri v es := by
 obtain ⟨v, e, h2, h3, h4⟩ := H.get (k := i.toNat) (by omega)
 rw [ut h0 h1]
 obtain ⟨v', ty', sz', es'⟩ := e
 obtain ⟨e1, e2, e3, e4, e5, e6, e7⟩ := h4
 simp only at e1 e2 e3
 subst e1 e2 e3
 exact ⟨v', es', h2, h3, e4, e5, e6, e7⟩
theorem cf6 {ls : List (List α)} {vs : List PV} {I : List Ent} {k : Nat} {l : List α} {v : PV} {es : List PV} (H : Ns t ty ls vs I) (h1 : All2 t.R l es) (h2 : isL v = true) (h3 : l.length ≤ 4611686018427387904) (h4 : Wri v es) : Ns t ty (ls.set k l) (vs.set k v) (I.set k ⟨v, ty, t.sz, es⟩) :=
 H.set ⟨rfl, rfl, rfl, h1, h2, h3, h4⟩
theorem at8 {v : PV} : ∀ {vs : List PV} {k : Nat}, vs[k]? = some v → vs.set k v = vs
 | [], _, h => by simp at h
 | a :: vs, 0, h => by simp at h; simp [h]
 | a :: vs, k + 1, h => by simp at h; simp [at8 h]
theorem ao7 {ls : List (List α)} {vs : List PV} {I : List Ent} {k : Nat} {l : List α} {v : PV} {es : List PV} (H : Ns t ty ls vs I) (hv : vs[k]? = some v) (h1 : All2 t.R l es) (h2 : isL v = true) (h3 : l.length ≤ 4611686018427387904) (h4 : Wri v es) : Ns t ty (ls.set k l) vs (I.set k ⟨v, ty, t.sz, es⟩) := by
 have := cf6 H h1 h2 h3 h4 (k := k)
 rwa [at8 hv] at this
theorem dc0 {v : PV} (h : cnt v = some 1) (ha : v.isAgg = false) : v.cellsOf = some [v] := by
 cases v <;> simp_all [cnt, PV.cellsOf, PV.isAgg]
theorem db4 : ∀ {vs : List PV}, (∀ v ∈ vs, cnt v = some 1 ∧ v.isAgg = false) → rowCells vs = some vs
 | [], _ => rfl
 | v :: vs, h => by
   simp only [rowCells, dc0 (h v List.mem_cons_self).1 (h v List.mem_cons_self).2, db4 fun x hx => h x (List.mem_cons_of_mem _ hx)]
   rfl
theorem br7 {e : Ent} (H : EntR h e) (hne : isL e.v = true) (hc : closedL e.es = true) : ∃ r, DeepC P h e.v r ∧ IsSl r e.es := by
 obtain ⟨v, ty, sz, es⟩ := e
 have M : Mem h [⟨v, ty, sz, es⟩] := ⟨fun x hx => by rw [List.mem_singleton.1 hx]; exact H, List.pairwise_singleton ..⟩
 obtain ⟨r, h1, h2⟩ := ax1 (P := P) (k := 0) M rfl hne hc
 refine ⟨r, ?_, h2⟩
 have H2 := H.2
 have hra : r.isAgg = false := by rcases h2 with ⟨ad, rfl, _⟩ | ⟨tg, rfl⟩ <;> rfl
 simp only at hne hc
 unfold EntV at H2
 split at H2
 ·rename_i hv; simp only at hv; rw [hv] at hne; cases hne
 ·rename_i id ver n hv
  simp only at hv
  subst hv
  refine ⟨h1.1, by rw [hra]; rfl, fun k hk w0 F0 x us R hv => ?_⟩
  have hv0 := hv
  simp only [VRC] at hv
  obtain ⟨b, cap, hj, rfl, _⟩ := hv
  have := h1.2 k hk w0 F0 x _ R hv0
  unfold VR at this
  rw [hra] at this
  exact this
 ·rename_i ad hv
  simp only at hv
  subst hv
  refine ⟨h1.1, by rw [hra]; rfl, fun k hk w0 F0 x us R hv => ?_⟩
  have hv0 := hv
  simp only [VRC] at hv
  obtain ⟨rfl, _⟩ := hv
  have := h1.2 k hk w0 F0 x _ R hv0
  unfold VR at this
  rw [hra] at this
  exact this
 ·rename_i es' hv
  simp only at hv
  subst hv
  refine ⟨h1.1, by rw [hra]; rfl, fun k hk w0 F0 x us R hv => ?_⟩
  have hv0 := hv
  simp only [VRC] at hv
  obtain ⟨b, o, cap, sz, rfl, _⟩ := hv
  have := h1.2 k hk w0 F0 x _ R hv0
  unfold VR at this
  rw [hra] at this
  exact this
 ·rename_i hv; simp only at hv; rw [hv] at hne; cases hne
 ·exact H2.elim
theorem as6 : ∀ {ls : List (List α)} {vs : List PV} {I L : List Ent}, Mem h L → (∀ e ∈ I, e ∈ L) → Ns t ty ls vs I → ∃ ds, DeepCL P h vs ds ∧ All2 (tSl t).R ls ds
 | [], [], [], L, M, hs, H => ⟨[], trivial, trivial⟩
 | l :: ls, v :: vs, e :: es, L, M, hs, H => by
   obtain ⟨ds, h1, h2⟩ := as6 M (fun x hx => hs x (List.mem_cons_of_mem _ hx)) H.2
   obtain ⟨v', ty', sz', es'⟩ := e
   obtain ⟨e1, e2, e3, e4, e5, e6, e7⟩ := H.1
   simp only at e1 e2 e3 e4
   subst e1 e2 e3
   obtain ⟨r, h3, h4⟩ := br7 (P := P) (M.ent _ (hs _ List.mem_cons_self)) e5 e4.clo
   exact ⟨r :: ds, ⟨h3, h1⟩, ⟨⟨_, h4, e4⟩, Nat.le_trans e6 (by decide)⟩, h2⟩
 | [], [], _ :: _, _, _, _, H => by simp [Ns] at H
 | [], _ :: _, _, _, _, _, H => by simp [Ns] at H
 | _ :: _, [], _, _, _, _, H => by simp [Ns] at H
 | _ :: _, _ :: _, [], _, _, _, H => by simp [Ns] at H
theorem bo2 {C R I : List Ent} {A : PV} {tyo : TypeId} {vs : List PV} {ls : List (List α)} {k : Nat} (M : Mem h (C ++ (I ++ R))) (hk : C[k]? = some ⟨A, tyo, 1, vs⟩) (hne : isL A = true) (H : Ns t ty ls vs I) (hb : ls.length ≤ 9223372036854775807) :
 ∃ r, Deep P h A r ∧ (tSl (tSl t)).R ls r := by
 obtain ⟨ds, h1, h2⟩ := as6 (P := P) M (fun e he => List.mem_append_right _ (List.mem_append_left _ he)) H
 have HE := M.ent _ (List.mem_append_left _ (List.mem_of_getElem? hk))
 have hld := h1.len
 have H2 := HE.2
 simp only at H2
 unfold EntV at H2
 split at H2
 ·cases hne
 ·rename_i id ver n
  obtain ⟨hn, cs, h3, h4⟩ := H2
  have c1 : ∀ v ∈ ds, cnt v = some 1 ∧ v.isAgg = false := by
   have : ∀ {ls : List (List α)} {ds : List PV}, All2 (tSl t).R ls ds → ∀ v ∈ ds, cnt v = some 1 ∧ v.isAgg = false := by
    intro ls ds h v hv
    refine ⟨All2.cnt (t := tSl t) h v hv, ?_⟩
    obtain ⟨j, hj, rfl⟩ := List.getElem_of_mem hv
    obtain ⟨a, ha⟩ : ∃ a, (tSl t).R a ds[j] := by
     have hl := h.length
     obtain ⟨e, he1, he2⟩ := h.get (k := j) (by omega)
     rw [List.getElem?_eq_getElem hj, Option.some.injEq] at he1
     exact ⟨_, he1 ▸ he2⟩
    exact (tSl t).agg ha
   exact this h2
  have c0 : ∀ v ∈ vs, cnt v = some 1 ∧ v.isAgg = false := by
   intro v hv
   refine ⟨HE.1 v hv, ?_⟩
   have : ∀ {vs ds : List PV}, DeepCL P h vs ds → (∀ v ∈ ds, v.isAgg = false) → ∀ v ∈ vs, v.isAgg = false := by
    intro vs
    induction vs with
    | nil => intro ds _ _ v hv; cases hv
    | cons a vs ih =>
      intro ds h k v hv
      cases ds with
      | nil => exact h.elim
      | cons d ds =>
        rcases List.mem_cons.1 hv with rfl | hv
        ·rw [← h.1.2.1]; exact k d List.mem_cons_self
        ·exact ih h.2 (fun x hx => k x (List.mem_cons_of_mem _ hx)) v hv
   exact this h1 (fun x hx => (c1 x hx).2) v hv
  rw [db4 c0, Option.some.injEq] at h3
  subst h3
  refine ⟨.fs false ds, ⟨by have := h1.closed; simpa [closed] using this, fun k hk w0 F0 x u R hv => ?_⟩, ⟨⟨ds, .inr ⟨false, rfl⟩, h2⟩, hb⟩⟩
  simp only [VR, AsVal, PV.isAgg, VRC, List.cons.injEq, and_true] at hv
  obtain ⟨b, cap, hj, rfl, g1, g2, _⟩ := hv
  obtain ⟨cur, hcur, hcl, hvr⟩ := kn R (hk _ _ h4) hj
  have hF : (⟨x.w, star w0 F0 x.w, noJ⟩ : Cx).F b := .inr (R.own _ _ _ hj)
  have hall : ds.all (fun v => cnt v == some 1) = true := by
   rw [List.all_eq_true]
   intro v hv
   simp [(c1 v hv).1]
  have hle : 0 + ds.length * 1 ≤ vs.length := by omega
  have hseg := VRL_seg hcl hvr 0 (ds.length * 1) hle
  have e1 : (vs.drop 0).take (ds.length * 1) = vs := by rw [List.drop_zero, Nat.mul_one, ← hld, List.take_length]
  rw [e1] at hseg
  refine ⟨b, 0, cap, 1, by rw [hn, hld], by omega, g2, by simp, VRM_of_cells hF (db4 c1) hall (kr hcur 0 (ds.length * 1)) (h1.vrl hk R hseg)⟩
 ·rename_i ad
  subst H2
  cases ls with
  | nil => exact ⟨_, cv rfl, ⟨⟨[], .inl ⟨ad, rfl, rfl⟩, trivial⟩, hb⟩⟩
  | cons a ls => simp [Ns] at H
 ·rename_i es'
  subst H2
  have := h1
  refine ⟨.fs true ds, ⟨by have := h1.closed; simpa [closed] using this, fun k hk w0 F0 x u R hv => ?_⟩, ⟨⟨ds, .inr ⟨true, rfl⟩, h2⟩, hb⟩⟩
  simp only [VR, AsVal, PV.isAgg, VRC] at hv ⊢
  obtain ⟨b, o, cap, sz, e, g2, g3, g4, hr⟩ := hv
  rw [← h1.len]
  exact ⟨b, o, cap, sz, e, g2, g3, g4, h1.vrm hk R hr⟩
 ·cases hne
 ·exact H2.elim
end
end
end Go.Pb
set_option linter.unusedVariables false
set_option linter.unusedSimpArgs false
namespace Go.Pb
open Go Go.RowKit
mutual
theorem ww (d e : Nat) : ∀ v : PV, closed v = true → shV d e v = v
 | .sc v, _ => rfl
 | .agg cs, h => by rw [shV, pa d e cs (by simpa [closed] using h)]
 | .tup vs, h => by rw [shV, pa d e vs (by simpa [closed] using h)]
 | .fs t es, h => by rw [shV, pa d e es (by simpa [closed] using h)]
 | .fp x, h => by rw [shV, ww d e x (by simpa [closed] using h)]
 | .os _ _ _ _, h => by simp [closed] at h
 | .op _ _ _, h => by simp [closed] at h
 | .om _ _, h => by simp [closed] at h
 | .fn f a b, h => by
   simp only [closed, Bool.and_eq_true] at h
   rw [shV, pa d e a h.1, pa d e b h.2]
 | .ifc t v, h => by rw [shV, ww d e v (by simpa [closed] using h)]
 | .junk, _ => rfl
theorem pa (d e : Nat) : ∀ l : List PV, closedL l = true → shL d e l = l
 | [], _ => rfl
 | v :: r, h => by
   simp only [closedL, Bool.and_eq_true] at h
   rw [shL, ww d e v h.1, pa d e r h.2]
end
theorem FnX.bump {P : Program} {g : FuncId} {ags : List PV} {h k : Heap} {r : PV} (H : FnX P g ags h r k) {n : Nat} (hn : k.nv ≤ n) : FnX P g ags h r ⟨n, k.bl⟩ := by
 refine ⟨H.1, fun w0 F0 x cargs R ha => (H.2 w0 F0 x cargs R ha).mono fun e w' hh => ?_⟩
 obtain ⟨v, r', h', y, rfl, hw, ⟨rfl, rfl⟩, R', E, hv⟩ := hh
 exact ⟨v, _, _, y, rfl, hw, ⟨rfl, rfl⟩, R'.sub hn fun id blk hb => .inl hb, E, hv⟩
theorem bm5 : ∀ (l : List Blk) (m : Nat), ∃ n, m ≤ n ∧ ∀ b ∈ l, b.ver < n
 | [], m => ⟨m, Nat.le_refl _, by simp⟩
 | b :: l, m => by
   obtain ⟨n, h1, h2⟩ := bm5 l m
   refine ⟨max n (b.ver + 1), by omega, fun c hc => ?_⟩
   rcases List.mem_cons.1 hc with rfl | hc
   ·omega
   ·have := h2 c hc; omega
theorem Mem.nv {h : Heap} {L : List Ent} (M : Mem h L) (n : Nat) : Mem ⟨n, h.bl⟩ L := ⟨fun e he => (M.ent e he).frame fun _ _ _ => rfl, M.dis⟩
theorem bo3 {h k : Heap} {L : List Ent} {v : PV} {ty : TypeId} {sz : Nat} {es : List PV} (M : Mem h L) (N : Mem k [⟨v, ty, sz, es⟩]) (hne : isL v = true) (hc : closedL es = true) :
 ∃ v', shV h.bl.length h.nv v = v' ∧ isL v' = true ∧ (Wri v es → Wri v' es) ∧ Mem (graft h k) (⟨v', ty, sz, es⟩ :: L) := by
 have H := N.atF (k := 0) rfl
 have hb : ∀ i, i < hlen h → blk (graft h k) i = blk h i := fun i hi => by
  simp only [blk, graft]; exact List.getElem?_append_left hi
 have HV := H.2
 unfold EntV at HV
 split at HV
 ·cases hne
 ·rename_i id ver n
  obtain ⟨hn, cs, h1, h2⟩ := HV
  have hcs : closedL cs = true := yi h1 hc
  refine ⟨_, rfl, rfl, fun hw => .inr ⟨_, _, _, rfl⟩, M.new ⟨H.1, hn, cs, h1, ?_⟩ (fun i hi => ?_) hb⟩
  ·have e := pa h.bl.length h.nv cs hcs
   simp only [blk, graft] at h2 ⊢
   rw [List.getElem?_append_right (by omega), Nat.add_sub_cancel, List.getElem?_map, h2]
   simp [shB, e]
  ·simp only [idOf, shV, Option.some.injEq] at hi
   show h.bl.length ≤ i
   omega
 ·exact ⟨_, rfl, rfl, fun hw => .inl HV, M.new ⟨H.1, HV⟩ (fun i hi => by simp [idOf, shV] at hi) hb⟩
 ·rename_i es'
  have HV : es' = es := HV
  subst HV
  refine ⟨_, rfl, rfl, fun hw => ?_, M.new ⟨H.1, ?_⟩ (fun i hi => by simp [idOf, shV] at hi) hb⟩
  ·rcases hw with rfl | ⟨_, _, _, h⟩
   ·exact .inl rfl
   ·cases h
  ·show EntV _ _ _ (.fs true (shL _ _ es'))
   rw [pa _ _ _ hc]; rfl
 ·cases hne
 ·exact HV.elim
theorem ce7 {P : Program} {g : FuncId} {ags : List PV} {r0 : PV} {k0 : Heap} {ty : TypeId} {sz : Nat} {es : List PV} (hF : FnX P g ags ⟨0, []⟩ r0 k0) (hc : closedL ags = true) (N : Mem k0 [⟨r0, ty, sz, es⟩]) (hne : isL r0 = true) (hes : closedL es = true) (hw : Wri r0 es) {h : Heap} {L : List Ent} (M : Mem h L) :
 ∃ v k0' , FnX P g ags ⟨0, []⟩ r0 k0' ∧ (∀ b ∈ k0'.bl, b.ver < k0'.nv) ∧ v = shV h.bl.length h.nv r0 ∧ isL v = true ∧ Wri v es ∧ Mem (graft h k0') (⟨v, ty, sz, es⟩ :: L) := by
 obtain ⟨n, h1, h2⟩ := bm5 k0.bl k0.nv
 obtain ⟨v, e, h3, h4, h5⟩ := bo3 M (N.nv n) hne hes
 exact ⟨v, ⟨n, k0.bl⟩, hF.bump h1, h2, e.symm, h3, h4 hw, h5⟩
section
variable {P : Program} {S : List Fr} {Q : Post} {E : TEnv} {h h' : Heap} {hf : Bool} {r : List AOper} {d : Nat} {op : AOp} {v : PV} {f : Operand} {args : List Operand} {g : FuncId} {ags : List PV}
def runM' (P : Program) (al : List AOper) (S : List Fr) (Q : Post) (T : Nat → PV) (h : Heap) : Prop := wpM P al T h (asPost P S Q .normal)
def RMg (P : Program) (l : List AOper) (S : List Fr) (Q : Post) (E : TEnv) (h : Heap) : Prop := ∀ T, Ag E T → runM' P l S Q T h
theorem ah0 {al : List AOper} (k : RMg P al S Q E h) : RC P (.regionM al) S Q E h := k
theorem ca7 (k : PN P S Q E h) : RMg P [] S Q E h := k
theorem rm_q (H : OV P op hf E h v) (k : RMg P r S Q ((d, v) :: E) h) : RMg P (⟨some d, op, none, hf⟩ :: r) S Q E h := fun T hT =>
 ⟨v, h, ⟨true, rfl, fun _ => .inl ⟨H.1, H.2 T hT, rfl⟩, fun e => by cases e⟩, k _ (hT.put d v)⟩
theorem rm_a (H : LV P op E h v h') (ha : op.isA = true) (k : RMg P r S Q ((d, v) :: E) h') : RMg P (⟨some d, op, none, hf⟩ :: r) S Q E h := fun T hT =>
 ⟨v, h', ⟨true, rfl, fun _ => .inr (.inr (.inl ⟨ha, H.2 T hT⟩)), fun e => by cases e⟩, k _ (hT.put d v)⟩
theorem rm_b (H : LV P op E h v h') (hb : op.bar = true) (k : RMg P r S Q ((d, v) :: E) h') : RMg P (⟨some d, op, none, false⟩ :: r) S Q E h := fun T hT =>
 ⟨v, h', ⟨true, rfl, fun _ => .inr (.inl ⟨hb, H.2 T hT, fun e => by cases e⟩), fun e => by cases e⟩, k _ (hT.put d v)⟩
theorem cw0 (H : LV P op E h v h') (hb : op.bar = true) (k : RMg P r S Q E h') : RMg P (⟨none, op, none, false⟩ :: r) S Q E h := fun T hT =>
 ⟨v, h', ⟨true, rfl, fun _ => .inr (.inl ⟨hb, H.2 T hT, fun e => by cases e⟩), fun e => by cases e⟩, k _ hT⟩
theorem yv {r0 : PV} {k0 : Heap} {ty : TypeId} {sz : Nat} {es : List PV} {L : List Ent} (hF : FnX P g ags ⟨0, []⟩ r0 k0) (N : Mem k0 [⟨r0, ty, sz, es⟩]) (hne : isL r0 = true) (hes : closedL es = true) (hw : Wri r0 es) (M : Mem h L) (ef : evE E f = some (.fn (.func g) [] [])) (ea : evL E args = some ags) (hc : closedL ags = true)
 (k : ∀ v h', isL v = true → Wri v es → Mem h' (⟨v, ty, sz, es⟩ :: L) → RMg P r S Q ((d, v) :: E) h') : RMg P (⟨some d, .call f args, none, hf⟩ :: r) S Q E h := by
 obtain ⟨v, k0', h1, h2, h3, h4, h5, h6⟩ := ce7 hF hc N hne hes hw M
 intro T hT
 exact ⟨v, _, ⟨true, rfl, fun _ => .inr (.inr (.inr ⟨f, args, g, ags, rfl, by rw [fj hT ef, rk hT ea, td]; simp, .inr ⟨r0, k0', hc, h1, h2, h3, rfl⟩⟩)), fun e => by cases e⟩, by have := k v _ h4 h5 h6 _ (hT.put d v); rw [h3] at this ⊢; exact this⟩
end
section
variable {P : Program} {S : List Fr} {Q : Post} {E : TEnv} {h : Heap} {L : List Ent} {hf : Bool} {r : List AOper} {d k : Nat} {ty : TypeId} {sz : Nat} {o o' : Operand}
theorem br6 {z : Value} {n : Nat} {t : TypeId} {x : PV} (M : Mem h L) (hz : PV.ofConst z = x) (hx : cnt x = some n) (K : ∀ id ver h', Mem h' (⟨.op id ver 0, t, n, [x]⟩ :: L) → RMg P r S Q ((d, .op id ver 0) :: E) h') : RMg P (⟨some d, .alloc true t z, none, hf⟩ :: r) S Q E h := by
 obtain ⟨id, ver, h', h1, h2⟩ := av4 (P := P) (E := E) (t := t) M hz hx
 exact rm_a h1 rfl (K _ _ _ h2)
theorem bq3 {id ver : Nat} {x v : PV} (M : Mem h L) (eo : evE E o = some (.op id ver 0)) (ev' : evE E o' = some v) (hk : L[k]? = some ⟨.op id ver 0, ty, sz, [x]⟩) (hv : cnt v = some sz) (K : ∀ h', Mem h' (L.set k ⟨.op id ver 0, ty, sz, [v]⟩) → RMg P r S Q E h') : RMg P (⟨none, .store sz o o', none, false⟩ :: r) S Q E h := by
 obtain ⟨h', h1, h2⟩ := av6 (P := P) M eo ev' hk hv
 exact cw0 h1 rfl (K _ h2)
theorem bq2 {id ver off n : Nat} {cs ds : List PV} {v : PV} (M : Mem h L) (eo : evE E o = some (.op id ver (0 + off))) (ev' : evE E o' = some v) (hk : L[k]? = some ⟨.op id ver 0, ty, sz, [.agg cs]⟩) (hv : v.cellsOf = some ds) (hn : ds.length = n) (hl : off + ds.length ≤ cs.length)
 (K : ∀ h', Mem h' (L.set k ⟨.op id ver 0, ty, sz, [.agg (spl cs off ds)]⟩) → RMg P r S Q E h') : RMg P (⟨none, .store n o o', none, false⟩ :: r) S Q E h := by
 obtain ⟨h', h1, h2⟩ := am2 (P := P) M eo ev' hk hv hn hl
 exact cw0 h1 rfl (K _ h2)
theorem cs8 {t : TypeId} {v x : PV} {es news : List PV} {b : Nat} (M : Mem h L) (eo : evE E o = some v) (ex : evE E o' = some x) (hk : L[k]? = some ⟨v, ty, sz, es⟩) (hne : isL v = true) (hw : Wri v es) (hx : Src h sz x news) (hf' : fits (es.length + news.length) b = true)
 (K : ∀ v' h', isL v' = true → Wri v' (es ++ news) → Mem h' (L.set k ⟨v', ty, sz, es ++ news⟩) → RMg P r S Q ((d, v') :: E) h') : RMg P (⟨some d, .append t ty sz b o o', none, false⟩ :: r) S Q E h := by
 obtain ⟨v', h', h1, h2, h3⟩ := mem_append M hk hne hx hf'
 exact rm_b ⟨rfl, fun T hT => by show appendR h ty sz b (ev T o) (ev T o') = _; rw [fj hT eo, fj hT ex, h1]⟩ rfl (K _ _ h2 (be2 hw (M.atF hk).2 hne hx h1) h3)
end
theorem dn2 {sz : Nat} {v : PV} {i : Int} {k : IntKind} {w : Option PV} (h : idxR sz v (vi i) = w) : idxR sz v (.sc (.int k i)) = w := by
 cases v <;> exact h
theorem ae2 {P : Program} {h : Heap} {L : List Ent} {k id ver : Nat} {ty : TypeId} {sz : Nat} {x : PV} (M : Mem h L) (hk : L[k]? = some ⟨.op id ver 0, ty, sz, [x]⟩) (hc : closed x = true) : Deep P h (.op id ver 0) (.fp x) := by
 obtain ⟨h1, x', cs, h2, h3, h4⟩ := M.atF hk
 simp only [List.cons.injEq, and_true] at h2
 subst h2
 refine ⟨hc, fun k hk' w0 F0 y u R hv => ?_⟩
 simp only [VR, AsVal, PV.isAgg, VRC, List.cons.injEq, and_true] at hv ⊢
 obtain ⟨b, hj, rfl⟩ := hv
 obtain ⟨cur, hcur, hcl, hvr⟩ := kn R (hk' _ _ h4) hj
 exact ⟨b, 0, cur.toList.take cs.length, rfl, .inr (R.own _ _ _ hj), by simpa using kr hcur 0 cs.length, VRC_of_cells h3 (VRL_sees (pe R) _ _ (by have e := py h3; first | (rw [← e]; exact hc) | (rw [e]; exact hc)) hvr)⟩
theorem cq8 {P : Program} {E : TEnv} {h : Heap} {L : List Ent} {k id ver n : Nat} {t e ty : TypeId} {sz : Nat} {x : PV} {es news : List PV} {o o' : Operand} (M : Mem h L) (eo : evE E o = some (.os id ver 0 n)) (ex : evE E o' = some x) (hk : L[k]? = some ⟨.os id ver 0 n, ty, sz, es⟩) (hx : Src h sz x news) (hl : news.length = es.length) :
 ∃ h', LV P (.copy t e sz o o') E h (vi (news.length : Int)) h' ∧ Mem h' (L.set k ⟨.os id ver 0 n, ty, sz, news⟩) := by
 obtain ⟨hc, hn, cs, h2, h3⟩ := M.atF hk
 obtain ⟨ncs, s1, s2, s3⟩ := hx
 obtain ⟨cs', h4, h5⟩ := ke hc
 rw [h2] at h4
 simp only [Option.some.injEq] at h4
 subst h4
 obtain ⟨ncs', h6, h7⟩ := ke s3
 rw [s2] at h6
 simp only [Option.some.injEq] at h6
 subst h6
 have hs : spl cs 0 ncs = ncs := by simp [spl, h7, h5, hl]
 refine ⟨hput h id (.cells ver ty true ncs), ⟨rfl, fun T hT => ?_⟩, M.upd hk ⟨s3, hn.trans hl.symm, ncs, s2, by simp [oo h3]⟩ (fun i hi => .inl hi) fun i hi hne' => ly _ _ _ _ fun e => hne' (by simp [idOf, e])⟩
 have e1 := fj hT eo
 have e2 := fj hT ex
 have hb : h.bl[id]? = some (.cells ver ty true cs) := h3
 simp only [opL, e1, e2, s1, hb]
 rw [if_pos ⟨trivial, by omega, by rw [h5, hl]; omega⟩, hs]
 rfl
theorem cj5 {P : Program} {S : List Fr} {Q : Post} {E : TEnv} {h : Heap} {L : List Ent} {k id ver n d : Nat} {t e ty : TypeId} {sz : Nat} {x : PV} {es news : List PV} {o o' : Operand} {r : List AOper} {hf : Bool} (M : Mem h L) (eo : evE E o = some (.os id ver 0 n)) (ex : evE E o' = some x) (hk : L[k]? = some ⟨.os id ver 0 n, ty, sz, es⟩) (hx : Src h sz x news) (hl : news.length = es.length)
 (K : ∀ h', Mem h' (L.set k ⟨.os id ver 0 n, ty, sz, news⟩) → RD P r S Q ((d, vi (news.length : Int)) :: E) h') : RD P (⟨some d, .copy t e sz o o', none, hf⟩ :: r) S Q E h := by
 obtain ⟨h', lv, M'⟩ := cq8 (P := P) (t := t) (e := e) M eo ex hk hx hl
 exact ah8 lv (K h' M')
theorem cp6 {P : Program} {E : TEnv} {h : Heap} {L : List Ent} {k : Nat} {ty : TypeId} {v zz : PV} {es : List PV} {z : Value} {x : Operand} (M : Mem h L) (ex : evE E x = some v) (hk : L[k]? = some ⟨v, ty, 1, es⟩) (hne : isL v = true) (hw : Wri v es) (hz : z.cells.toList.map PV.sc = [zz]) (hzc : zz.cellsOf = some [zz]) (hzn : cnt zz = some 1) :
 ∃ h', LV P (.clr 1 z x) E h (.tup []) h' ∧ Mem h' (L.set k ⟨v, ty, 1, List.replicate es.length zz⟩) := by
 have H := M.atF hk
 have same : es = [] → Mem h (L.set k ⟨v, ty, 1, List.replicate es.length zz⟩) := fun e => by
  subst e
  have : L.set k ⟨v, ty, 1, List.replicate ([] : List PV).length zz⟩ = L := by
   obtain ⟨h5, h6⟩ := List.getElem?_eq_some_iff.1 hk
   have : (⟨v, ty, 1, List.replicate ([] : List PV).length zz⟩ : Ent) = L[k] := by rw [h6]; rfl
   rw [this, List.set_getElem_self]
  rw [this]; exact M
 rcases hw with rfl | ⟨id, ver, n, rfl⟩
 ·refine ⟨h, ⟨rfl, fun T hT => ?_⟩, same rfl⟩
  have HV := H.2
  have ex' := fj hT ex
  unfold EntV at HV
  split at HV
  ·cases hne
  ·have hn : _ = 0 := HV.1
   subst hn
   simp only [opL, ex']
  ·simp only [opL, ex']
  ·have HV : _ = [] := HV
   subst HV
   simp only [opL, ex']
  ·cases hne
  ·exact HV.elim
 ·obtain ⟨hc, hn, cs, h2, h3⟩ := H
  obtain ⟨cs', h4, h5⟩ := ke hc
  rw [h2] at h4
  simp only [Option.some.injEq] at h4
  subst h4
  rw [Nat.mul_one] at h5
  by_cases h0 : n = 0
  ·refine ⟨h, ⟨rfl, fun T hT => ?_⟩, same (List.eq_nil_of_length_eq_zero (by omega))⟩
   subst h0
   have ex' := fj hT ex
   simp only [opL, ex']
  ·obtain ⟨q, hq⟩ : ∃ q, n = q + 1 := ⟨n - 1, by omega⟩
   subst hq
   have hr := yk hzc (q + 1)
   have hrl : (repCells (q + 1) [zz]).length = q + 1 := by simp [repCells]
   have hs : spl cs 0 (repCells (q + 1) [zz]) = repCells (q + 1) [zz] := by simp [spl, hrl]; omega
   refine ⟨hput h id (.cells ver ty true (repCells (q + 1) [zz])), ⟨rfl, fun T hT => ?_⟩, M.upd hk ⟨fun y hy => by rw [(List.mem_replicate.1 hy).2]; exact hzn, by simp [hn], _, by rw [← hn]; exact hr, by simp [oo h3]⟩ (fun i hi => .inl hi) fun i hi hne' => ly _ _ _ _ fun e => hne' (by simp [idOf, e])⟩
   have ex' := fj hT ex
   have hb : h.bl[id]? = some (.cells ver ty true cs) := h3
   simp only [opL, ex', hb, hz]
   rw [if_pos ⟨trivial, by omega, by omega⟩, hs]
   rfl
theorem FnR.of_X {P : Program} {g : FuncId} {ags : List PV} {r0 d : PV} {k0 : Heap} (H : FnX P g ags ⟨0, []⟩ r0 k0) (hd : Deep P k0 r0 d) : FnR P g ags d := by
 refine ⟨H.1, fun w F cargs hF ha => ?_⟩
 have R : RelP P w F ⟨0, []⟩ ⟨w, F, noJ⟩ :=
  ⟨Bel.refl _ _, hF, fun _ h => h, fun b hb => ⟨hF b hb, .inl hb⟩, (fun id ver b hb => by cases hb), fun _ _ _ => rfl, (fun id id' blk blk' b h1 => by simp at h1), (fun id blk hb => by simp at hb)⟩
 refine (H.2 _ _ _ _ R ha).mono fun e w' hh => ?_
 obtain ⟨v, r', h', y, rfl, rfl, ⟨rfl, rfl⟩, R', E, hv⟩ := hh
 exact ⟨v, ⟨y.w, star w F y.w, noJ⟩, rfl, rfl, ⟨R'.below, rfl, fun b hb => .inl hb, fun b hb => hb⟩, hd.2 _ (Sub.refl _) w F y v R' hv⟩
theorem ai4 {P : Program} {h : Heap} {L : List Ent} {E : TEnv} {S : List Fr} {Q : Post} {ty : TypeId} {sz k : Nat} {d : Bool} {id ver : Nat} {x : PV} {l : List AOper} {E' : TEnv} (M : Mem h L) (hk : L[k]? = some ⟨.op id ver 0, ty, sz, [x]⟩) (hE : FrzE (.op id ver 0) (.fp x) E E') (K : ∀ h', Mem h' (L.eraseIdx k) → RD P l S Q E' h') : RC P (.region d l) S Q E h := by
 obtain ⟨hc, x', cs, h1, h2, h3⟩ := M.atF hk
 simp only [List.cons.injEq, and_true] at h1
 subst h1
 have hM : Mem (hput h id (.cells ver ty false cs)) (L.eraseIdx k) := by
  refine ⟨fun e he => ?_, M.dis.sublist (List.eraseIdx_sublist ..)⟩
  obtain ⟨j, hj⟩ := List.getElem?_of_mem he
  rw [List.getElem?_eraseIdx] at hj
  have hjk : ∃ j, j ≠ k ∧ L[j]? = some e := by
   split at hj
   ·exact ⟨j, by omega, hj⟩
   ·exact ⟨j + 1, by omega, hj⟩
  obtain ⟨j, hne, hj⟩ := hjk
  refine (M.ent e (List.mem_of_getElem? hj)).frame fun i hi _ => ?_
  have ha := pv M.dis hk hne hj
  exact ly h id i _ fun e' => ha i (by simp [idOf, e']) hi
 intro T hT
 refine .inr (.inr ⟨fun t => match look t E' with | some u => u | none => T t, hput h id (.cells ver ty false cs), ?_, K _ hM _ fun t u e => by simp only [e]⟩)
 intro w0 F0 n' z a R hTm
 obtain ⟨y, ew, eJ, Ex, hF, R'⟩ := R.freeze h3
 refine ⟨y, ew, Ex, R', hTm.size, fun t => ?_, hTm.defers⟩
 have h0 := VR_ext Ex (hTm.at_ t)
 split
 ·rename_i u hu
  obtain ⟨w, h5, h4⟩ := hE t u hu
  rw [hT t w h5] at h0
  have hb : ∀ us, VRC P y (.op id ver 0) us → VRC P y (.fp x) us := fun us hv => by
   have hone : ∃ u, us = [u] := by
    simp only [VRC] at hv
    obtain ⟨b, _, e⟩ := hv
    exact ⟨_, e⟩
   obtain ⟨u, rfl⟩ := hone
   exact VR_frozenp (u := u) R' (tj h id _ (oo h3)) (fun b hj => hF b (by rw [← eJ]; exact hj)) h2 hv
  have := h4.agg_eq rfl
  unfold VR at h0 ⊢
  rw [← this]
  exact AsVal.imp (h4.conv hb) h0
 ·exact h0
end Go.Pb
