import Derived.Test.YtmonnlkagniolaaGreatPbC
import Derived.Sort.Grow
import Derived.Shelf.SlSortCmp.NoneTotal
set_option linter.unusedVariables false
set_option linter.unusedSimpArgs false
namespace Go.Pb
open Go Go.RowKit
section
variable {P : Program} {S : List Fr} {Q : Post} {E : TEnv} {h : Heap} {hf : Bool} {L : List Ent} {r : List AOper} {ty : TypeId} {sz : Nat}
theorem pk {x : Operand} {lo hi : Option Operand} {a b : Int} {tt : TypeId} {id ver off n : Nat} (ex : evE E x = some (.os id ver off n)) (ha : Bnd E 0 lo a) (hb : Bnd E n hi b) (h0 : 0 ≤ a) (h1 : a < b) (h2 : b ≤ (n : Int)) (hs : 0 < sz) :
 OV P (.slice tt sz x lo hi none) hf E h (.os id ver (off + a.toNat * sz) (b.toNat - a.toNat)) := ⟨rfl, fun T hT => by
 have e1 : boundF T 0 lo = some a.toNat := ha.eq hT h0
 have e2 : boundF T n hi = some b.toNat := hb.eq hT (by omega)
 simp only [opQ, ek hT ex, e1, e2, boundM]
 rw [if_pos ⟨by omega, by omega, hs, rfl⟩, if_neg (by omega)]⟩
theorem RelP.cut {w0 : World} {F0 : Nat → Prop} {x : Cx} (R : RelP P w0 F0 h x) {id ver m : Nat} {t : TypeId} {cs : List PV} (hb : h.bl[id]? = some (.cells ver t true cs)) : RelP P w0 F0 (hput h id (.cells ver t true (cs.take m))) x := by
 have hset : ∀ (k : Nat) blk, (h.bl.set id (.cells ver t true (cs.take m)))[k]? = some blk → ∃ blk', h.bl[k]? = some blk' ∧ blk'.ver = blk.ver ∧ (blk = blk' ∨ (k = id ∧ blk = .cells ver t true (cs.take m))) := fun k blk hk => by
  rcases sa k blk hk with ⟨rfl, rfl⟩ | ⟨hne, hk'⟩
  ·exact ⟨_, hb, rfl, .inr ⟨rfl, rfl⟩⟩
  ·exact ⟨blk, hk', rfl, .inl rfl⟩
 refine ⟨R.below, R.f0, R.fsub, R.fnew, R.own, R.fresh, fun id1 id2 b1 b2 b h1 h2 h3 h4 => ?_, fun k blk hk => ?_⟩
 ·obtain ⟨c1, e1, v1, _⟩ := hset id1 b1 h1
  obtain ⟨c2, e2, v2, _⟩ := hset id2 b2 h2
  exact R.inj id1 id2 c1 c2 b e1 e2 (by rw [v1]; exact h3) (by rw [v2]; exact h4)
 ·obtain ⟨c1, e1, v1, hc⟩ := hset k blk hk
  rcases hc with rfl | ⟨rfl, rfl⟩
  ·exact R.hr k _ e1
  ·intro b hj
   obtain ⟨⟨cur, h5, h6, h7⟩, h8⟩ := R.hr k _ hb b hj
   refine ⟨⟨cur, h5, by simp; omega, ?_⟩, h8⟩
   have := VRL_take m h7
   rw [List.take_take] at this
   rw [List.length_take]
   exact this
theorem tk : ∀ {es cs : List PV}, (∀ y ∈ es, cnt y = some sz) → rowCells es = some cs → ∀ k, rowCells (es.take k) = some (cs.take (k * sz))
 | es, cs, _, _, 0 => by simp [rowCells]
 | [], cs, hc, hr, k + 1 => by
   simp only [rowCells, Option.some.injEq] at hr
   subst hr
   simp [rowCells]
 | e :: es, cs, hc, hr, k + 1 => by
   obtain ⟨a, h1, h2⟩ := jr (hc e (by simp))
   obtain ⟨b, h3, h4⟩ := kb (es := es) (sz := sz) fun x hx => hc x (by simp [hx])
   simp only [rowCells, h1, h3, Option.some.injEq] at hr
   subst hr
   have ih := tk (fun x hx => hc x (by simp [hx])) h3 k
   simp only [List.take_succ_cons, rowCells, h1, ih, Option.some.injEq]
   rw [show (k + 1) * sz = a.length + k * sz by rw [Nat.succ_mul]; omega, List.take_append, List.take_of_length_le (l := a) (i := a.length + k * sz) (Nat.le_add_right _ _)]
   simp
theorem at8 {k : Nat} {id ver n kk : Nat} {es : List PV} {z : Value} {x : Operand} (M : Mem h L) (hk : L[k]? = some ⟨.os id ver 0 n, ty, sz, es⟩) (ex : evE E x = some (.os id ver (0 + kk * sz) (n - kk))) (hlt : kk < n) (hz : z.cells.size = sz)
 (K : ∀ h', Mem h' (L.set k ⟨.os id ver 0 kk, ty, sz, es.take kk⟩) → RS P r S Q E h') : RS P (⟨none, .clr sz z x, none, hf⟩ :: r) S Q E h := by
 obtain ⟨h1, hn, cs, h2, h3⟩ := M.atF hk
 obtain ⟨cs', h4, h5⟩ := kb h1
 rw [h2] at h4
 simp only [Option.some.injEq] at h4
 subst h4
 have hrl : (repCells (n - kk) (z.cells.toList.map PV.sc)).length = (n - kk) * sz := by
  unfold repCells
  rw [iy (sz := sz) _ (fun p hp => by rw [List.eq_of_mem_replicate hp]; simpa using hz)]
  simp
 have hmul : kk * sz + (n - kk) * sz = n * sz := by rw [← Nat.add_mul]; congr 1; omega
 have hcl : cs.length = n * sz := by rw [h5, hn]
 intro T hT
 refine ⟨T, h, Wk.refl T h, true, rfl, fun _ => .inl ?_, fun e => by cases e⟩
 have hq : opL T h (.clr sz z x) = some (.tup [], hput h id (.cells ver ty true (spl cs (0 + kk * sz) (repCells (n - kk) (z.cells.toList.map PV.sc))))) := by
  have hb : h.bl[id]? = some (.cells ver ty true cs) := h3
  simp only [opL, ek hT ex, hb]
  rw [if_pos ⟨trivial, by omega, by omega⟩]
  rfl
 show OpD P (.clr sz z x) hf T h _
 unfold OpD
 show ∃ r h', opL T h (.clr sz z x) = some (r, h') ∧ _
 refine ⟨_, _, hq, ?_⟩
 have htk : (spl cs (0 + kk * sz) (repCells (n - kk) (z.cells.toList.map PV.sc))).take (kk * sz) = cs.take (kk * sz) := by
  unfold spl
  rw [Nat.zero_add, List.take_append_of_le_length (by simp; omega), List.take_take, Nat.min_self]
 have hlt2 := ng h3
 have hb2 : (hput h id (.cells ver ty true (spl cs (0 + kk * sz) (repCells (n - kk) (z.cells.toList.map PV.sc))))).bl[id]? = some (.cells ver ty true (spl cs (0 + kk * sz) (repCells (n - kk) (z.cells.toList.map PV.sc)))) := sr h id _ hlt2
 have hM : Mem (hput (hput h id (.cells ver ty true (spl cs (0 + kk * sz) (repCells (n - kk) (z.cells.toList.map PV.sc))))) id (.cells ver ty true (cs.take (kk * sz)))) (L.set k ⟨.os id ver 0 kk, ty, sz, es.take kk⟩) := by
  refine M.upd hk ⟨fun x hx => h1 x (List.take_subset _ _ hx), by simp; omega, _, ?_, sr _ _ _ (by simpa [hput, hlen] using hlt2)⟩ (fun i hi => .inl hi) fun i hi hne => ?_
  ·exact tk h1 h2 kk
  ·have hne' : ¬ id = i := fun e => hne (by simp [idOf, e])
   rw [md _ _ _ _ hne', md _ _ _ _ hne']
 refine as7 (T' := T) ?_ (K _ hM T hT)
 intro w0 F0 n' y ac R hTm
 refine ⟨y, rfl, Ext.refl y, ?_, hTm⟩
 have := R.cut (m := kk * sz) hb2
 rwa [htk] at this
def cpF {α : Type} [Inhabited α] [DecidableEq α] (l : List α) : Nat → List α
 | 0 => []
 | m + 1 => cpF l m ++ (if m = 0 ∨ ix l (m : Int) ≠ ix l ((m : Int) - 1) then [ix l (m : Int)] else [])
def cpt {α : Type} [Inhabited α] [DecidableEq α] (l : List α) : List α := cpF l l.length
theorem xg {α : Type} [Inhabited α] [DecidableEq α] (l : List α) : ∀ m, (cpF l m).length ≤ m
 | 0 => by simp [cpF]
 | m + 1 => by
   have := xg l m
   rw [cpF, List.length_append]
   split <;> simp <;> omega
theorem pt {α : Type} [Inhabited α] [DecidableEq α] {l : List α} {m : Nat} (h : m = 0 ∨ ix l (m : Int) ≠ ix l ((m : Int) - 1)) : cpF l (m + 1) = cpF l m ++ [ix l (m : Int)] := by rw [cpF, if_pos h]
theorem sh {α : Type} [Inhabited α] [DecidableEq α] {l : List α} {m : Nat} (h0 : 0 < m) (h : ix l (m : Int) = ix l ((m : Int) - 1)) : cpF l (m + 1) = cpF l m := by
 rw [cpF, if_neg (by simp [h]; omega), List.append_nil]
theorem uo {α : Type} [Inhabited α] {l : List α} {m : Nat} (h : m < l.length) : l.take (m + 1) = l.take m ++ [ix l (m : Int)] := by
 rw [xx h, List.take_add_one, List.getElem?_eq_getElem h]
 rfl
theorem aa6 {α : Type} [Inhabited α] [DecidableEq α] {l : List α} (h : l.length < 2) : cpt l = l := by
 unfold cpt
 match l, h with
 | [], _ => rfl
 | [a], _ => simp [cpF, ix]
theorem pq {id ver off n : Nat} {t e : TypeId} (ht : P.underlying t = some (.slice e)) (ty : TypeId) : biF P .len [t].toArray ty [.os id ver off n] = some (vi (n : Int)) := by
 simp [biF, toVs, toV, ht, vi]
end
end Go.Pb
set_option linter.unusedVariables false
set_option linter.unusedSimpArgs false
namespace Go.Pb
open Go Go.RowKit
section
variable {P : Program} {h : Heap} {ty : TypeId} {sz : Nat}
theorem VRL_sc_eq {x : Cx} : ∀ {us l : List Value}, VRL P x (us.map .sc) l → l = us
 | [], [], _ => rfl
 | [], _ :: _, h => by simp [VRL] at h
 | _ :: _, [], h => by simp [VRL] at h
 | u :: us, v :: l, h => by
   simp only [List.map_cons, VRL, VRC, List.cons.injEq, and_true] at h
   rw [h.2.1.1, VRL_sc_eq h.2.2]
theorem ao2 {w : World} {b : Nat} {cur : Array Value} {us : List Value} (hc : w.heap[b]? = some (.cells cur ty (0, 0))) (hu : cur.toList.take us.length = us) : Go.Sort.Holds (id : Value → Value) w b 0 us.toArray := by
 intro j hj
 have hj' : j < us.length := by simpa using hj
 have hg : cur.toList[j]? = some us[j] := by
  have := congrArg (fun l => l[j]?) hu
  simp only [List.getElem?_take, hj', if_true] at this
  rw [this, List.getElem?_eq_getElem hj']
 constructor
 ·simp only [World.cell?, hc, Option.isSome_none, Bool.false_eq_true, if_false, Nat.zero_add, id]
  rw [← Array.getElem?_toList, hg]
  simp [hj']
 ·simp [World.frozen?, hc]
theorem al9 {w : World} {b : Nat} {cur : Array Value} {us : List Value} (hc : w.heap[b]? = some (.cells cur ty (0, 0))) (hl : us.length ≤ cur.size) : Go.Sort.putRow (id : Value → Value) w b 0 us.toArray = w.setRow b (us ++ cur.toList.drop us.length).toArray := by
 have hcut : Go.Sort.putCells (id : Value → Value) 0 us.toArray cur = (us ++ cur.toList.drop us.length).toArray := by
  apply Array.ext'
  apply List.ext_getElem
  ·simp [Go.Sort.putCells]; omega
  ·intro j h1 h2
   simp only [Go.Sort.putCells, Array.toList_mapIdx, List.getElem_mapIdx, Nat.zero_le, true_and, Nat.zero_add, List.size_toArray, Nat.sub_zero, id]
   split
   ·rename_i hj
    simp only [List.getElem_append_left hj]
    simp [hj]
   ·rename_i hj
    rw [List.getElem_append_right (by omega), List.getElem_drop]
    congr 1
    omega
 unfold Go.Sort.putRow Go.Sort.mapBlock World.setRow
 congr 1
 apply Array.ext_getElem?
 intro k
 simp only [Array.getElem?_modify]
 by_cases hk : b = k
 ·subst hk
  simp only [if_true, hc, Option.map_some, Go.Sort.onCells, hcut]
 ·simp [hk]
theorem cg7 {g : FuncId} (he : Enters P g) {id ver n : Nat} {R : List Ent} {es es' : List PV} {us us' : List Value} {rest : List PV} {crest : List Value} (M : Mem h (⟨.os id ver 0 n, ty, sz, es⟩ :: R)) (e1 : rowCells es = some (us.map .sc)) (e2 : rowCells es' = some (us'.map .sc)) (hc' : ∀ x ∈ es', cnt x = some sz) (hlen : us'.length = us.length) (hes : es'.length = es.length) (h1 : ∀ u ∈ us', u.oneCell' = true)
 (hr : ∀ x cargs, VRV P x rest cargs → cargs = crest)
 (H : ∀ (w : World) (b cap : Nat), b < w.heap.size → Go.Sort.Holds (_root_.id : Value → Value) w b 0 us.toArray → Calls P g (.slice (some ⟨b, 0, none⟩) n cap :: crest).toArray w fun e w' => e = .returned (.tuple #[]) ∧ ∃ q os, w' = Go.Sort.grow (Go.Sort.putRow (_root_.id : Value → Value) (Go.Sort.ahead w q) b 0 us'.toArray) os) :
 ∃ h2, FnX P g (.os id ver 0 n :: rest) h (.tup []) h2 ∧ Mem h2 (⟨.os id ver 0 n, ty, sz, es'⟩ :: R) := by
 obtain ⟨hcn, hn, cs, hcs, hb⟩ := M.atF (k := 0) rfl
 rw [e1] at hcs
 simp only [Option.some.injEq] at hcs
 subst hcs
 refine ⟨hput h id (.cells ver ty true (us'.map .sc)), ⟨he, fun w0 F0 x cargs R0 hv => ?_⟩, ?_⟩
 ·cases cargs with
  | nil => simp [VRV] at hv
  | cons u cr =>
    simp only [VRV] at hv
    obtain ⟨hu, hrest⟩ := hv
    have hcr := hr x cr hrest
    subst hcr
    simp only [AsVal, PV.isAgg, VRC, List.cons.injEq, and_true] at hu
    obtain ⟨b, cap, hj, rfl, -, -, -⟩ := hu
    obtain ⟨cur, hcur, hcl, hvr⟩ := kr R0 hb hj
    have htk := VRL_sc_eq hvr
    simp only [List.length_map] at hcl htk
    have hblt : b < x.w.heap.size := (R0.own id ver b hj).2
    refine (H x.w b cap hblt (ao2 hcur htk)).mono ?_
    rintro e w' ⟨rfl, q, os, hw⟩
    have hw2 : w' = Go.Sort.grow (Go.Sort.ahead (x.w.setRow b (us' ++ cur.toList.drop us'.length).toArray) q) os := by
     rw [hw, Go.Sort.putRow_ahead, al9 hcur (by omega)]
    have hvl : VRL P x (us'.map .sc) ((us' ++ cur.toList.drop us'.length).toArray.toList.take (us'.map PV.sc).length) := by
     simp only [List.length_map, List.take_left']
     exact VRL_sc P x us' (by rw [List.all_eq_true]; exact h1)
    obtain ⟨R1, E1⟩ := R0.setOwn (us := (us' ++ cur.toList.drop us'.length).toArray) hb hj hcur (by simp; omega) (by simp) hvl (.inl ⟨rfl, rfl⟩) (bl' := h.bl.set id (.cells ver ty true (us'.map .sc))) sa
    generalize hy1 : (⟨x.w.setRow b (us' ++ cur.toList.drop us'.length).toArray, x.F, updJ x.J id ver b⟩ : Cx) = y1 at R1 E1
    have hyw : y1.w = x.w.setRow b (us' ++ cur.toList.drop us'.length).toArray := by rw [← hy1]
    have G : Grow y1 ⟨w', y1.F, y1.J⟩ := by
     refine ⟨⟨⟨?_, ?_, ?_, ?_, fun k hk => ?_⟩, ?_⟩, rfl, fun _ h => h, fun _ h => .inl h⟩
     ·rw [hw2, hyw]; rfl
     ·rw [hw2, hyw]; rfl
     ·rw [hw2, hyw]; rfl
     ·rw [hw2, hyw]; simp [Go.Sort.grow, Go.Sort.ahead]
     ·rw [hw2, hyw]
      rw [hyw] at hk
      simp only [Go.Sort.grow, Go.Sort.ahead]
      rw [Array.getElem?_append_left hk]
     ·rw [hw2, hyw]; exact xt (Nat.le_add_right _ _)
    exact ⟨.tuple #[], .tup [], _, ⟨w', y1.F, y1.J⟩, rfl, rfl, ⟨rfl, rfl⟩, R1.grow G, E1.trans (R1.ext_of_grow G), ⟨[], rfl, by simp [VRV]⟩⟩
 ·refine M.upd (k := 0) rfl ⟨hc', by rw [hn, hes], _, e2, sr _ _ _ (ng hb)⟩ (fun i hi => .inl hi) fun i hi hne => ?_
  exact md _ _ _ _ fun e => hne (by simp [idOf, e])
theorem bg4 {g : FuncId} (he : Enters P g) {R : List Ent} {a : PV} {rest : List PV} {crest : List Value} (M : Mem h (⟨a, ty, sz, []⟩ :: R)) (ne : isL a = true) (hr : ∀ x cargs, VRV P x rest cargs → cargs = crest)
 (H : ∀ (w : World) (p : Option Addr) (cap : Nat), Calls P g (.slice p 0 cap :: crest).toArray w fun e w' => e = .returned (.tuple #[]) ∧ w' = w) : FnX P g (a :: rest) h (.tup []) h := by
 have HE := M.at (k := 0) rfl
 refine ⟨he, fun w0 F0 x cargs R0 hv => ?_⟩
 cases cargs with
 | nil => simp [VRV] at hv
 | cons u cr =>
   simp only [VRV] at hv
   obtain ⟨hu, hrest⟩ := hv
   have hcr := hr x cr hrest
   subst hcr
   have key : ∃ p cap, u = .slice p 0 cap := by
    have H2 := HE.2
    unfold EntV at H2
    split at H2
    ·rename_i hv'; simp only at hv'; rw [hv'] at ne; cases ne
    ·rename_i id ver n hv'
     simp only at hv' H2
     subst hv'
     obtain ⟨hn, _⟩ := H2
     have : n = 0 := hn
     subst this
     simp only [AsVal, PV.isAgg, VRC, List.cons.injEq, and_true] at hu
     obtain ⟨b, cap, -, rfl, -⟩ := hu
     exact ⟨_, _, rfl⟩
    ·rename_i ad hv'
     simp only at hv'
     subst hv'
     exact ⟨_, _, na hu⟩
    ·rename_i es' hv'
     simp only at hv' H2
     subst hv' H2
     simp only [AsVal, PV.isAgg, VRC, List.cons.injEq, and_true, List.length_nil] at hu
     obtain ⟨b, o, cap, sz, rfl, -⟩ := hu
     exact ⟨_, _, rfl⟩
    ·rename_i hv'; simp only at hv'; rw [hv'] at ne; cases ne
    ·exact H2.elim
   obtain ⟨p, cap, rfl⟩ := key
   refine (H x.w p cap).mono ?_
   rintro e w' ⟨rfl, rfl⟩
   exact ⟨.tuple #[], .tup [], h, x, rfl, rfl, ⟨rfl, rfl⟩, R0, Ext.refl x, ⟨[], rfl, by simp [VRV]⟩⟩
theorem qw {α : Type} {mk : α → PV} {enc : α → List Value} (hm : ∀ x, (mk x).cellsOf = some ((enc x).map .sc)) : ∀ (l : List α), rowCells (l.map mk) = some ((l.flatMap enc).map .sc)
 | [] => rfl
 | x :: l => by simp only [List.map_cons, rowCells, hm, qw hm l, List.flatMap_cons, List.map_append]
theorem al2 {α : Type} {R : α → PV → Prop} {mk : α → PV} (hR : ∀ x v, R x v → v = mk x) : ∀ {l : List α} {es : List PV}, All2 R l es → es = l.map mk
 | [], [], _ => rfl
 | [], _ :: _, h => by simp [All2] at h
 | _ :: _, [], h => by simp [All2] at h
 | x :: l, e :: es, h => by rw [List.map_cons, hR x e h.1, ← al2 hR h.2]
theorem ak7 {α : Type} {R : α → PV → Prop} {mk : α → PV} (hR : ∀ x, R x (mk x)) : ∀ (l : List α), All2 R l (l.map mk)
 | [] => trivial
 | x :: l => ⟨hR x, ak7 hR l⟩
theorem yz {α : Type} {enc : α → List Value} {k : Nat} (hk : ∀ x, (enc x).length = k) : ∀ (l : List α), (l.flatMap enc).length = l.length * k
 | [] => by simp
 | x :: l => by rw [List.flatMap_cons, List.length_append, hk, yz hk l, List.length_cons, Nat.succ_mul]; omega
theorem bf9 {α : Type} {t : TR α} {mk : α → PV} {enc : α → List Value} {g : FuncId} (he : Enters P g) (hR : ∀ x v, t.R x v → v = mk x) (hR2 : ∀ x, t.R x (mk x)) (hm : ∀ x, (mk x).cellsOf = some ((enc x).map .sc)) (hk : ∀ x, (enc x).length = t.sz) (h1 : ∀ x, ∀ u ∈ enc x, u.oneCell' = true) {l l' : List α} (hll : l'.length = l.length)
 {a : PV} {es : List PV} {R : List Ent} {rest : List PV} {crest : List Value} (hr : ∀ x cargs, VRV P x rest cargs → cargs = crest) (q : All2 t.R l es) (ne : isL a = true) (wi : Wri a es) (M : Mem h (⟨a, ty, t.sz, es⟩ :: R))
 (H0 : l = [] → ∀ (w : World) (p : Option Addr) (cap : Nat), Calls P g (.slice p 0 cap :: crest).toArray w fun e w' => e = .returned (.tuple #[]) ∧ w' = w)
 (H : ∀ (w : World) (b cap : Nat), b < w.heap.size → Go.Sort.Holds (_root_.id : Value → Value) w b 0 (l.flatMap enc).toArray → Calls P g (.slice (some ⟨b, 0, none⟩) l.length cap :: crest).toArray w fun e w' => e = .returned (.tuple #[]) ∧ ∃ q os, w' = Go.Sort.grow (Go.Sort.putRow (_root_.id : Value → Value) (Go.Sort.ahead w q) b 0 (l'.flatMap enc).toArray) os) :
 ∃ r h2, FnX P g (a :: rest) h r h2 ∧ ∃ es', Mem h2 (⟨a, ty, t.sz, es'⟩ :: R) ∧ All2 t.R l' es' ∧ Wri a es' ∧ r = .tup [] := by
 have hes := al2 hR q
 rcases wi with rfl | ⟨id, ver, n, rfl⟩
 ·have hl0 : l = [] := by
   cases l with
   | nil => rfl
   | cons _ _ => simp at hes
  have hl0' : l' = [] := by
   cases l' with
   | nil => rfl
   | cons _ _ => rw [hl0] at hll; simp at hll
  subst hl0'
  exact ⟨_, h, bg4 he M ne hr (H0 hl0), [], M, trivial, .inl rfl, rfl⟩
 ·have hn : n = l.length := by rw [ad3 M (k := 0) rfl, All2.length_eq q]
  subst hn
  obtain ⟨h2, X, M2⟩ := cg7 (es' := l'.map mk) (us := l.flatMap enc) (us' := l'.flatMap enc) he M (by rw [hes]; exact qw hm l) (qw hm l') (fun x hx => by
   obtain ⟨y, _, rfl⟩ := List.mem_map.1 hx
   exact t.cnt (hR2 y)) (by rw [yz hk, yz hk, hll]) (by rw [List.length_map, hll, hes, List.length_map]) (fun u hu => by
   obtain ⟨y, _, hy⟩ := List.mem_flatMap.1 hu
   exact h1 y u hy) hr H
  exact ⟨_, h2, X, _, M2, ak7 hR2 l', .inr ⟨_, _, _, rfl⟩, rfl⟩
theorem aj2 (l : List Int) : l.flatMap (fun z => [Value.int .i64 z]) = l.map (Value.int .i64) := by
 induction l with
 | nil => rfl
 | cons x l ih => rw [List.flatMap_cons, ih]; rfl
theorem ba5 {w : World} {b : Nat} {l : List Int} (H : Go.Sort.Holds (_root_.id : Value → Value) w b 0 (l.map (Value.int .i64)).toArray) : Go.Sort.Holds (Value.int .i64) w b 0 l.toArray := fun j hj => by
 have hj' : j < l.length := by simpa using hj
 have := H j (by simpa using hj')
 simpa [hj'] using this
theorem ap5 {w : World} {b : Nat} {l : List Int} : Go.Sort.putRow (Value.int .i64) w b 0 l.toArray = Go.Sort.putRow (_root_.id : Value → Value) w b 0 (l.map (Value.int .i64)).toArray := by
 unfold Go.Sort.putRow
 refine Go.Sort.mapBlock_congr _ _ _ _ fun c _ _ _ => ?_
 unfold Go.Sort.putCells
 apply Array.ext
 ·simp
 ·intro j h1 h2
  simp only [Array.getElem_mapIdx, List.size_toArray, List.length_map, Nat.zero_le, true_and, Nat.zero_add, Nat.sub_zero, id]
  split
  ·rename_i hj; simp [hj]
  ·rfl
theorem an3 {g : FuncId} (he : Enters P g)
 (H : ∀ (blk off cap : Nat) (zs : List Int) (w : World), Go.Sort.Holds (Value.int .i64) w blk off zs.toArray → blk < w.heap.size → zs.length < 4611686018427387904 → Calls P g #[.slice (some ⟨blk, off, none⟩) zs.length cap] w fun e w' => e = .returned (.tuple #[]) ∧ ∃ n os, w' = Go.Sort.grow (Go.Sort.putRow (Value.int .i64) (Go.Sort.ahead w n) blk off (zs.mergeSort fun x y => decide (x ≤ y)).toArray) os)
 (H0 : ∀ (p : Option Addr) (cap : Nat) (w : World), Calls P g #[.slice p 0 cap] w fun e w' => e = .returned (.tuple #[]) ∧ w' = w)
 {l : List Int} {a : PV} {es : List PV} {R : List Ent} (q : All2 tI.R l es) (ne : isL a = true) (hl : l.length ≤ 1000000) (wi : Wri a es) (M : Mem h (⟨a, ty, 1, es⟩ :: R)) :
 ∃ r h2, FnX P g [a] h r h2 ∧ ∃ es', Mem h2 (⟨a, ty, 1, es'⟩ :: R) ∧ All2 tI.R (l.mergeSort fun x y => decide (x ≤ y)) es' ∧ Wri a es' ∧ r = .tup [] := by
 refine bf9 (t := tI) (mk := vi) (enc := fun z => [Value.int .i64 z]) (crest := []) he (fun x v h => h) (fun x => rfl) (fun x => rfl) (fun x => rfl) (fun x u hu => by simp at hu; subst hu; rfl) (List.length_mergeSort _) (fun x cargs hv => by cases cargs with
  | nil => rfl
  | cons _ _ => simp [VRV] at hv) q ne wi M (fun _ w p cap => H0 p cap w) fun w b cap hb hh => ?_
 rw [aj2] at hh
 refine (H b 0 cap l w (ba5 hh) hb (by omega)).mono ?_
 rintro e w' ⟨rfl, n, os, rfl⟩
 exact ⟨rfl, n, os, by rw [aj2, ap5]⟩
end
end Go.Pb
set_option linter.unusedVariables false
set_option linter.unusedSimpArgs false
namespace Go.Pb
open Go Go.RowKit Go.Sort Go.Proofs
section
variable {P : Program} {h : Heap} {ty : TypeId} {α : Type} [Inhabited α]
theorem ah8 {enc : α → List Value} {k : Nat} (hk : ∀ x, (enc x).length = k) (l : List α) : flatK enc k l.toArray = (l.flatMap enc).toArray := by
 rcases Nat.eq_zero_or_pos k with h0 | hpos
 ·subst h0
  have : l.flatMap enc = [] := by
   rw [List.flatMap_eq_nil_iff]
   exact fun x _ => List.eq_nil_of_length_eq_zero (hk x)
  rw [this]
  simp [flatK]
 ·have key : ∀ m, m ≤ l.length → (List.range (m * k)).map (fun t => (enc l.toArray[t / k]!)[t % k]!) = (l.take m).flatMap enc := by
   intro m
   induction m with
   | zero => intro _; simp
   | succ m ih =>
     intro hm
     rw [Nat.succ_mul, List.range_add, List.map_append, ih (by omega), List.take_add_one, List.flatMap_append, List.getElem?_eq_getElem (by omega)]
     congr 1
     simp only [Option.toList_some, List.flatMap_cons, List.flatMap_nil, List.append_nil, List.map_map]
     apply List.ext_getElem
     ·simp [hk]
     ·intro j h1 h2
      simp only [List.length_map, List.length_range] at h1
      simp only [List.getElem_map, List.getElem_range, Function.comp_apply]
      have e1 : (m * k + j) / k = m := by rw [Nat.mul_comm, Nat.mul_add_div hpos, Nat.div_eq_of_lt h1, Nat.add_zero]
      have e2 : (m * k + j) % k = j := by rw [Nat.mul_comm, Nat.mul_add_mod, Nat.mod_eq_of_lt h1]
      rw [e1, e2]
      have hml : m < l.length := by omega
      simp [hml, hk, h1]
  apply Array.ext'
  have := key l.length (Nat.le_refl _)
  rw [List.take_length] at this
  simpa [flatK] using this
theorem cm5 {mk : α → PV} {enc : α → List Value} {k : Nat} {cf : α → α → Int} {gc : FuncId} (hmk : ∀ x, mk x = .agg ((enc x).map .sc)) (h1 : ∀ x, ∀ u ∈ enc x, u.oneCell' = true) (HC : ∀ x y, FnR P gc [mk x, mk y] (vi (cf x y))) (blk off size : Nat) (w : World) : CmpLays P gc #[] enc k cf blk off size w := by
 intro m os dk hd x y
 generalize sortWorldK enc k w blk off m dk os = W
 have hv : VRV P ⟨W, fun _ => False, noJ⟩ [mk x, mk y] [.agg (enc x).toArray, .agg (enc y).toArray] := by
  have hone : ∀ z, AsVal (mk z).isAgg (VRC P ⟨W, fun _ => False, noJ⟩ (mk z)) (.agg (enc z).toArray) := fun z => by
   rw [hmk]
   exact ⟨enc z, rfl, by simp only [VRC]; exact VRL_sc P _ _ (by rw [List.all_eq_true]; exact h1 z)⟩
  simp only [VRV]
  exact ⟨hone x, hone y, trivial⟩
 refine ((HC x y).2 W (fun _ => False) _ (fun b hb => hb.elim) hv).mono ?_
 rintro e w' ⟨v, z, rfl, rfl, G, hr⟩
 have hr' := na hr
 subst hr'
 refine ⟨rfl, z.w.drawn - W.drawn, z.w.heap.extract W.heap.size z.w.heap.size, ?_⟩
 have hb := G.below
 have hh : z.w.heap = W.heap ++ z.w.heap.extract W.heap.size z.w.heap.size := by
  apply Array.ext_getElem?
  intro j
  rw [Array.getElem?_append]
  split
  ·rename_i hj
   exact hb.block j hj
  ·rename_i hj
   rw [Array.getElem?_extract]
   have hs : W.heap.size ≤ z.w.heap.size := hb.size
   by_cases hj2 : j < z.w.heap.size
   ·rw [if_pos (by omega)]
    congr 1
    omega
   ·rw [if_neg (by omega), Array.getElem?_eq_none (by omega)]
 have hd' : z.w.drawn = W.drawn + (z.w.drawn - W.drawn) := by have hq := hb.dr; unfold dle at hq; have hq' : W.drawn ≤ z.w.drawn := hq; clear hq; omega
 have e1 := hb.os
 have e2 := hb.tape
 have e3 := hb.output
 obtain ⟨zw, zF, zJ⟩ := z
 obtain ⟨zh, zt, zd, zo, zu⟩ := zw
 simp only at hh hd' e1 e2 e3 ⊢
 subst e1 e2 e3
 unfold grow World.drewN
 simp only [World.mk.injEq, and_true, true_and]
 exact ⟨hh, hd'⟩
theorem zm {t : TR α} {mk : α → PV} {enc : α → List Value} {cf : α → α → Int} {g gc : FuncId} (he : Enters P g) (hR : ∀ x v, t.R x v → v = mk x) (hR2 : ∀ x, t.R x (mk x)) (hmk : ∀ x, mk x = .agg ((enc x).map .sc)) (hk : ∀ x, (enc x).length = t.sz) (h1 : ∀ x, ∀ u ∈ enc x, u.oneCell' = true)
 (HC : ∀ x y, FnR P gc [mk x, mk y] (vi (cf x y)))
 (H : ∀ (blk off cap : Nat) (d : Array α) (w : World), CmpLays P gc #[] enc t.sz cf blk off d.size w → HoldsK enc t.sz w blk off d → blk < w.heap.size → d.size < 4611686018427387904 → Calls P g #[.slice (some ⟨blk, off, none⟩) d.size cap, .func (.func gc) #[] #[]] w fun e w' => e = .returned (.tuple #[]) ∧ ∃ n os, w' = sortWorldK enc t.sz w blk off n (d.toList.mergeSort fun x y => !(ltOf cf) y x).toArray os)
 (H0 : ∀ (p : Option Addr) (cap : Nat) (w : World), Calls P g #[.slice p 0 cap, .func (.func gc) #[] #[]] w fun e w' => e = .returned (.tuple #[]) ∧ w' = w)
 {l : List α} {a : PV} {es : List PV} {R : List Ent} (q : All2 t.R l es) (ne : isL a = true) (hl : l.length ≤ 1000000) (wi : Wri a es) (M : Mem h (⟨a, ty, t.sz, es⟩ :: R)) :
 ∃ r h2, FnX P g [a, .fn (.func gc) [] []] h r h2 ∧ ∃ es', Mem h2 (⟨a, ty, t.sz, es'⟩ :: R) ∧ All2 t.R (l.mergeSort fun x y => !(ltOf cf) y x) es' ∧ Wri a es' ∧ r = .tup [] := by
 refine bf9 (mk := mk) (enc := enc) (crest := [.func (.func gc) #[] #[]]) he hR hR2 (fun x => by rw [hmk]; rfl) hk h1 (List.length_mergeSort _) (fun x cargs hv => ?_) q ne wi M (fun _ w p cap => H0 p cap w) fun w b cap hb hh => ?_
 ·match cargs, hv with
  | [], hv => simp [VRV] at hv
  | [u], hv =>
    simp only [VRV, AsVal, PV.isAgg, VRC, List.cons.injEq, and_true] at hv
    obtain ⟨fs, cs, rfl, h2, h3⟩ := hv
    cases fs with
    | nil => cases cs with
      | nil => rfl
      | cons _ _ => simp [VRV] at h3
    | cons _ _ => simp [VRV] at h2
  | _ :: _ :: _, hv => simp [VRV] at hv
 ·have hh2 : HoldsK enc t.sz w b 0 l.toArray := by
   unfold HoldsK
   rw [ah8 hk]
   exact hh
  have hc := H b 0 cap l.toArray w (cm5 hmk h1 HC _ _ _ _) hh2 hb (by simp; omega)
  simp only [List.size_toArray] at hc
  refine hc.mono ?_
  rintro e w' ⟨rfl, n, os, rfl⟩
  exact ⟨rfl, n, os, by unfold sortWorldK putRowK; rw [ah8 hk]⟩
end
end Go.Pb
set_option linter.unusedVariables false
set_option linter.unusedSimpArgs false
set_option linter.unusedSectionVars false
namespace Go.Pb
open Go Go.RowKit
section
variable {α : Type} [Inhabited α] [DecidableEq α] {lt : α → α → Bool}
structure STO {α : Type} (lt : α → α → Bool) : Prop where
 irr : ∀ x, lt x x = false
 trans : ∀ x y z, lt x y = true → lt y z = true → lt x z = true
 total : ∀ x y, lt x y = false → lt y x = false → x = y
theorem STO.asymm (h : STO lt) {x y : α} (a : lt x y = true) : lt y x = false := by
 cases b : lt y x with
 | false => rfl
 | true => have := h.trans x y x a b; rw [h.irr] at this; cases this
def insS {α : Type} [DecidableEq α] (lt : α → α → Bool) (x : α) : List α → List α
 | [] => [x]
 | y :: l => if lt y x = true then y :: insS lt x l else if y = x then y :: l else x :: y :: l
theorem rq (lt : α → α → Bool) (x : α) : ∀ (l : List α), (insS lt x l).length ≤ l.length + 1
 | [] => by simp [insS]
 | y :: l => by
   have := rq lt x l
   rw [insS]
   split
   ·simp; omega
   ·split <;> simp
theorem yo (x y : α) : ∀ (l : List α), y ∈ insS lt x l ↔ y = x ∨ y ∈ l
 | [] => by simp [insS]
 | z :: l => by
   rw [insS]
   split
   ·rw [List.mem_cons, yo x y l, List.mem_cons]
    constructor
    ·rintro (h | h | h)
     ·exact .inr (.inl h)
     ·exact .inl h
     ·exact .inr (.inr h)
    ·rintro (h | h | h)
     ·exact .inr (.inl h)
     ·exact .inl h
     ·exact .inr (.inr h)
   ·split
    ·rename_i h
     subst h
     simp
    ·simp
theorem ay0 (h : STO lt) (x : α) : ∀ (l : List α), l.Pairwise (fun a b => lt a b = true) → (insS lt x l).Pairwise (fun a b => lt a b = true)
 | [], _ => by simp [insS]
 | z :: l, hp => by
   rw [List.pairwise_cons] at hp
   rw [insS]
   split
   ·rename_i h1
    rw [List.pairwise_cons]
    refine ⟨fun y hy => ?_, ay0 h x l hp.2⟩
    rcases (yo x y l).1 hy with rfl | hy
    ·exact h1
    ·exact hp.1 y hy
   ·rename_i h1
    split
    ·exact List.pairwise_cons.2 hp
    ·rename_i h2
     have hxz : lt x z = true := by
      cases e : lt x z with
      | true => rfl
      | false => exact absurd (h.total z x (by simpa using h1) e) h2
     refine List.pairwise_cons.2 ⟨fun y hy => ?_, List.pairwise_cons.2 hp⟩
     rcases List.mem_cons.1 hy with rfl | hy
     ·exact hxz
     ·exact h.trans _ _ _ hxz (hp.1 y hy)
theorem xu (h : STO lt) : ∀ {l k : List α}, l.Pairwise (fun a b => lt a b = true) → k.Pairwise (fun a b => lt a b = true) → (∀ y, y ∈ l ↔ y ∈ k) → l = k
 | [], [], _, _, _ => rfl
 | [], b :: k, _, _, he => by have := (he b).2 List.mem_cons_self; cases this
 | a :: l, [], _, _, he => by have := (he a).1 List.mem_cons_self; cases this
 | a :: l, b :: k, hl, hk, he => by
   rw [List.pairwise_cons] at hl hk
   have hab : a = b := by
    rcases List.mem_cons.1 ((he a).1 List.mem_cons_self) with e | ha
    ·exact e
    ·rcases List.mem_cons.1 ((he b).2 List.mem_cons_self) with e | hb
     ·exact e.symm
     ·have h1 := hk.1 a ha
      rw [h.asymm (hl.1 b hb)] at h1
      cases h1
   subst hab
   have ht : l = k := xu h hl.2 hk.2 fun y => by
    constructor
    ·intro hy
     rcases List.mem_cons.1 ((he y).1 (List.mem_cons_of_mem _ hy)) with rfl | h1
     ·have := hl.1 _ hy; rw [h.irr] at this; cases this
     ·exact h1
    ·intro hy
     rcases List.mem_cons.1 ((he y).2 (List.mem_cons_of_mem _ hy)) with rfl | h1
     ·have := hk.1 _ hy; rw [h.irr] at this; cases this
     ·exact h1
   rw [ht]
theorem ae4 {s : List α} : ∀ (m : Nat), m ≤ s.length → ∀ y, y ∈ cpF s m ↔ y ∈ s.take m
 | 0, _, y => by simp [cpF]
 | m + 1, hm, y => by
   have ih := ae4 (s := s) m (by omega) y
   rw [uo (by omega), List.mem_append, List.mem_singleton, ← ih]
   by_cases hc : m = 0 ∨ ix s (m : Int) ≠ ix s ((m : Int) - 1)
   ·rw [pt hc, List.mem_append, List.mem_singleton]
   ·rw [sh (by omega) (by
     by_cases he : ix s (m : Int) = ix s ((m : Int) - 1)
     ·exact he
     ·exact absurd (.inr he) hc)]
    constructor
    ·exact .inl
    ·rintro (h | rfl)
     ·exact h
     ·rw [ih]
      have hm0 : m ≠ 0 := fun e => hc (.inl e)
      have he : ix s (m : Int) = ix s ((m : Int) - 1) := by
       by_cases he : ix s (m : Int) = ix s ((m : Int) - 1)
       ·exact he
       ·exact absurd (.inr he) hc
      rw [he, show ((m : Int) - 1) = ((m - 1 : Nat) : Int) by omega, xx (l := s) (i := m - 1) (by omega)]
      rw [List.mem_take_iff_getElem]
      exact ⟨m - 1, (by omega : m - 1 < min m s.length), rfl⟩
theorem bn2 (h : STO lt) {s : List α} (hs : s.Pairwise (fun a b => lt b a = false)) : ∀ (m : Nat), m ≤ s.length → (cpF s m).Pairwise (fun a b => lt a b = true)
 | 0, _ => by simp [cpF]
 | m + 1, hm => by
   have ih := bn2 h hs m (by omega)
   by_cases hc : m = 0 ∨ ix s (m : Int) ≠ ix s ((m : Int) - 1)
   ·rw [pt hc, List.pairwise_append]
    refine ⟨ih, List.pairwise_singleton _ _, fun a ha b hb => ?_⟩
    rw [List.mem_singleton] at hb
    subst hb
    rw [ae4 m (by omega), List.mem_take_iff_getElem] at ha
    obtain ⟨j, hj, rfl⟩ := ha
    have hjm : j < m := by omega
    rw [List.pairwise_iff_getElem] at hs
    have h1 := hs j m (by omega) (by omega) hjm
    rw [xx (by omega)]
    cases e : lt (s[j]'(by omega)) (s[m]'(by omega)) with
    | true => rfl
    | false =>
      exfalso
      have heq := h.total _ _ e h1
      rcases hc with hc | hc
      ·omega
      ·apply hc
       rw [show ((m : Int) - 1) = ((m - 1 : Nat) : Int) by omega, xx (by omega), xx (by omega)]
       by_cases hj1 : j = m - 1
       ·subst hj1; exact heq.symm
       ·have h2 := hs j (m - 1) (by omega) (by omega) (by omega)
        have h3 := hs (m - 1) m (by omega) (by omega) (by omega)
        rw [heq] at h2
        exact h.total _ _ h3 h2
   ·rw [sh (by omega) (by
     by_cases he : ix s (m : Int) = ix s ((m : Int) - 1)
     ·exact he
     ·exact absurd (.inr he) hc)]
    exact ih
theorem cq2 (h : STO lt) {s : List α} (hs : s.Pairwise (fun a b => lt b a = false)) : (cpt s).Pairwise (fun a b => lt a b = true) := bn2 h hs _ (Nat.le_refl _)
theorem cd4 {s : List α} (y : α) : y ∈ cpt s ↔ y ∈ s := by
 unfold cpt
 rw [ae4 _ (Nat.le_refl _), List.take_length]
theorem ay4 (h : STO lt) : ∀ (l acc : List α), acc.Pairwise (fun a b => lt a b = true) → (l.foldl (fun acc x => insS lt x acc) acc).Pairwise (fun a b => lt a b = true)
 | [], acc, ha => ha
 | x :: l, acc, ha => ay4 h l _ (ay0 h x acc ha)
theorem am5 (y : α) : ∀ (l acc : List α), y ∈ l.foldl (fun acc x => insS lt x acc) acc ↔ y ∈ l ∨ y ∈ acc
 | [], acc => by simp
 | x :: l, acc => by
   rw [List.foldl_cons, am5 y l, yo, List.mem_cons]
   constructor
   ·rintro (h | h | h)
    ·exact .inl (.inr h)
    ·exact .inl (.inl h)
    ·exact .inr h
   ·rintro ((h | h) | h)
    ·exact .inr (.inl h)
    ·exact .inl h
    ·exact .inr (.inr h)
theorem cg9 (h : STO lt) (l : List α) : (l.mergeSort fun x y => !lt y x).Pairwise (fun a b => lt b a = false) := by
 have := List.pairwise_mergeSort (le := fun x y => !lt y x) (fun a b c h1 h2 => by
  simp only [Bool.not_eq_true'] at h1 h2 ⊢
  cases e : lt c a with
  | false => rfl
  | true =>
    cases e2 : lt b c with
    | true => rw [h.trans _ _ _ e2 e] at h1; cases h1
    | false => have := h.total _ _ e2 h2; subst this; rw [e] at h1; cases h1) (fun a b => by
  cases e : lt b a with
  | false => simp
  | true => simp [h.asymm e]) l
 exact this.imp fun {a b} hab => by simpa using hab
theorem rz (h : STO lt) (l : List α) : cpt (l.mergeSort fun x y => !lt y x) = l.foldl (fun acc x => insS lt x acc) [] := by
 refine xu h (cq2 h (cg9 h l)) (ay4 h l [] .nil) fun y => ?_
 rw [cd4, List.mem_mergeSort, am5]
 simp
end
end Go.Pb
set_option linter.unusedVariables false
set_option linter.unusedSimpArgs false
namespace Go.Pb
open Go Go.RowKit
theorem qa : (∀ a b : Bool, ((a || b) = true) = (a = true ∨ b = true)) ∧ (∀ a b : Bool, (a || b) = false ↔ a = false ∧ b = false) ∧ (∀ a b : Bool, ((a && b) = true) = (a = true ∧ b = true)) ∧ (∀ a b : Bool, (a && b) = false ↔ (a = true → b = false)) ∧ (∀ (p : Prop) [Decidable p], (decide p = true) = p) ∧ (∀ (p : Prop) [Decidable p], decide p = false ↔ ¬p) ∧ (∀ a : Bool, ((!a) = true) = (a = false)) ∧ (∀ a : Bool, ((!a) = false) = (a = true)) ∧ (∀ a : Bool, (¬a = true) = (a = false)) ∧ (∀ a : Bool, (¬a = false) = (a = true)) ∧ ((!true) = false) ∧ ((!false) = true) ∧ (∀ n : Nat, Int.ofNat n = (n : Int)) ∧ (∀ n : Nat, Int.negSucc n = -((n : Int) + 1)) ∧ (∀ (α : Type) (a b : α), (a ≠ b) = ¬a = b) :=
 ⟨Bool.or_eq_true, fun _ _ => Bool.or_eq_false_iff, Bool.and_eq_true, fun _ _ => Bool.and_eq_false_imp, fun _ _ => decide_eq_true_eq, fun _ _ => decide_eq_false_iff_not, Bool.not_eq_true', Bool.not_eq_false', Bool.not_eq_true, Bool.not_eq_false, rfl, rfl, fun _ => rfl, fun _ => Int.negSucc_eq _, fun _ a b => ne_eq a b⟩
theorem sB {E : TEnv} : ∀ {E0 : TEnv}, E0.map (fun p => look p.1 E) = E0.map (fun p => some p.2) → SubE E E0
 | [], _ => lz E
 | (d, v) :: r, h => by
   simp only [List.map_cons, List.cons.injEq] at h
   exact dn h.1 (sB h.2)
def cO (P : Program) (own : List Tmp) (n : Nat) (f : Func) : AC := (compC P own n (f.body.getD .skip)).getD .skip
def loops : AC → List AC
 | .seq a b => loops a ++ loops b
 | .cond _ a b => loops a ++ loops b
 | .block _ b => loops b
 | .scope b => loops b
 | .loop b => b :: loops b
 | _ => []
def lP (k : Nat) (c : AC) : AC := (loops c).getD k .skip
abbrev rdc (c w : AC) (h : c = w) : AC := w
theorem tX {P : Program} {f : FuncId} {own : List Tmp} {n np : Nat} {ac : AC} {rs : List (Tmp × Option (Nat × Bool))} {fn : Func} (e : Enters P f) (fo : P.follows .mixedOrders = true) (h : P.funcs[f]? = some fn)
 (hb : fn.body = some (fn.body.getD .skip)) (hn : fn.ntmps = n) (hp : np ≤ n) (hc : compC P own n (fn.body.getD .skip) = some ac) (hr : compRes P fn.results.toList = some rs) : FnText P f own n np ac rs :=
 ⟨e, fo, fn, _, h, hb, hn, hp, hc, hr⟩
section
variable {P : Program} {S : List Fr} {Q : Post} {E E0 : TEnv} {h h' : Heap} {op : AOp} {hf hf2 : Bool} {v : PV} {r l : List AOper} {d d2 t : Nat} {f : Operand} {args : List Operand} {w b : Bool}
theorem wC {c : AC} (k : RC P c S Q E0 h) (s : E0.map (fun p => look p.1 E) = E0.map (fun p => some p.2)) : RC P c S Q E h := nr (sB s) k
theorem wP {id : Nat} (k : PX P id S Q E0 h) (s : E0.map (fun p => look p.1 E) = E0.map (fun p => some p.2)) : PX P id S Q E h := ut (sB s) k
theorem wD {l : List AOper} (k : RD P l S Q E0 h) (s : E0.map (fun p => look p.1 E) = E0.map (fun p => some p.2)) : RD P l S Q E h := ae8 (sB s) k
theorem bm {α : Type} {c : Operand} {a b : AC} {v : Bool} {x y r : α} (hres : (if v = true then x else y) = r) (hc : evE E c = some (vb v)) (h1 : v = true → x = r → RC P a S Q E h) (h2 : v = false → y = r → RC P b S Q E h) : RC P (.cond c a b) S Q E h :=
 cb hc (fun e => h1 e ((ac3 e).symm.trans hres)) (fun e => h2 e ((aa9 e).symm.trans hres))
theorem fnS {f : FuncId} {own : List Tmp} {n np : Nat} {ac : AC} {rs : List (Tmp × Option (Nat × Bool))} {args : List PV} {α : Type} {e : α} {v : PV} {R : α → PV → Prop} (X : FnText P f own n np ac rs)
 (hr : ∀ r, R e r → r = v) (hn : Nat.ble args.length np = true) (H : ∀ res, e = res → RC P ac [] (QR P rs (R res)) (argE 0 args) ⟨0, []⟩) : FnR P f args v := by
 obtain ⟨r, h1, h2⟩ := fnE X (Nat.le_of_ble_eq_true hn) (H e rfl)
 rw [← hr r h2]; exact h1
theorem fnT {f : FuncId} {own : List Tmp} {n np : Nat} {ac : AC} {rs : List (Tmp × Option (Nat × Bool))} {args : List PV} {α : Type} {e : α} {R : α → PV → Prop} (X : FnText P f own n np ac rs)
 (hn : Nat.ble args.length np = true) (H : ∀ res, e = res → RC P ac [] (QR P rs (R res)) (argE 0 args) ⟨0, []⟩) : ∃ r, FnR P f args r ∧ R e r := fnE X (Nat.le_of_ble_eq_true hn) (H e rfl)
theorem fnXX {f : FuncId} {own : List Tmp} {n np : Nat} {ac : AC} {rs : List (Tmp × Option (Nat × Bool))} {args : List PV} {α : Type} {e : α} {R : α → PV → Heap → Prop} (X : FnText P f own n np ac rs)
 (hn : Nat.ble args.length np = true) (H : ∀ res, e = res → RC P ac [] (retPost P rs (R res)) (argE 0 args) h) : ∃ r h', FnX P f args h r h' ∧ R e r h' := fnX X (Nat.le_of_ble_eq_true hn) (H e rfl)
theorem aL {α : Type} {R : α → PV → Prop} : All2 R [] [] := trivial
theorem rR {α : Type} {t : Tmp} {R : α → PV → Prop} {e res : α} {v : PV} (hres : e = res) (hv : look t E = some v) (hc : closed v = true) (hr : R e v) : RC P .ret S (QR P [(t, none)] (R res)) E h := by
 subst hres; exact gm (.tmp hv .nil) (dm hc) hr
theorem rT {α : Type} {t t' : Tmp} {R : α → PV → Prop} {e res : α} {v v' : PV} (hres : e = res) (hv : look t E = some v) (hv' : look t' E = some v') (hc : closed v = true) (hc' : closed v' = true) (hr : R e (.tup [v, v'])) : RC P .ret S (QR P [(t, none), (t', none)] (R res)) E h := by
 subst hres; exact gm (.tmp hv (.tmp hv' .nil)) (dm (show closed (.tup _) = true from ak hc (ak hc' bc))) hr
theorem sR {d : Bool} {al : List AOper} {b : AC} (k : RD P al (.seq b :: S) Q E h) : RC P (.seq (.region d al) b) S Q E h := aq (aw k)
theorem nS {b : AC} (k : RC P b S Q E h) : RD P [] (.seq b :: S) Q E h := k
theorem nR {d : Bool} {al : List AOper} {b : AC} (k : RD P al (.seq b :: S) Q E h) : RD P [] (.seq (.seq (.region d al) b) :: S) Q E h := bp (am (sR k))
theorem mV {x : Operand} {a : PV} (ex : evE E x = some a) (k : RD P r S Q ((d, a) :: E) h) : RD P (⟨some d, .move x, none, hf⟩ :: r) S Q E h := ae (av ex) k
theorem mI {x : Operand} {n : Int} (ex : evE E x = some (vi n)) (k : RD P r S Q ((d, vi n) :: E) h) : RD P (⟨some d, .move x, none, hf⟩ :: r) S Q E h := ae (av ex) k
theorem mB {x : Operand} {n : Bool} (ex : evE E x = some (vb n)) (k : RD P r S Q ((d, vb n) :: E) h) : RD P (⟨some d, .move x, none, hf⟩ :: r) S Q E h := ae (av ex) k
theorem bN {op : BinOp} {t : TypeId} {x y : Operand} {a b v : PV} (hb : binF P op t x y a b = some v) (ex : evE E x = some a) (ey : evE E y = some b) (k : RD P r S Q ((d, v) :: E) h) : RD P (⟨some d, .bin op t x y, none, hf⟩ :: r) S Q E h := ae (bv ex ey hb) k
theorem xT {x : Operand} {vs : List PV} {k : Nat} {v : PV} (ex : evE E x = some (.tup vs)) (hk : vs[k]? = some v) (K : RD P r S Q ((d, v) :: E) h) : RD P (⟨some d, .extract x k, none, hf⟩ :: r) S Q E h := ae (am8 ex hk) K
theorem fA {x : Operand} {a w : PV} {off sz : Nat} {agg : Bool} (ex : evE E x = some (.fp a)) (hw : fieldR off sz agg a = some w) (k : RD P r S Q ((d, .fp w) :: E) h) : RD P (⟨some d, .faddr off sz agg x, none, hf⟩ :: r) S Q E h := ae (cg ex hw) k
theorem lD {α : Type} {t : TR α} {s : α} {a : PV} {x : Operand} {sz : Nat} {agg : Bool} (q : t.R s a) (ex : evE E x = some (.fp a)) (h1 : t.sz = sz) (h2 : t.ag = agg) (k : RD P r S Q ((d, a) :: E) h) : RD P (⟨some d, .load sz agg x, none, hf⟩ :: r) S Q E h := ae (ca ex (by rw [TR.cnt t q, h1]) (by rw [TR.agg t q, h2])) k
theorem lR {a : PV} {x : Operand} {sz : Nat} {agg : Bool} (ex : evE E x = some (.fp a)) (h1 : cnt a = some sz) (h2 : a.isAgg = agg) (k : RD P r S Q ((d, a) :: E) h) : RD P (⟨some d, .load sz agg x, none, hf⟩ :: r) S Q E h := ae (ca ex h1 h2) k
theorem fL {x : Operand} {a w : PV} {off sz sz2 : Nat} {agg agg2 : Bool} (ex : evE E x = some (.fp a)) (hw : fieldR off sz agg a = some w) (h1 : cnt w = some sz2) (h2 : w.isAgg = agg2) (k : RD P r S Q ((d2, w) :: (d, .fp w) :: E) h) : RD P (⟨some d, .faddr off sz agg x, none, hf⟩ :: ⟨some d2, .load sz2 agg2 (.tmp d), none, hf2⟩ :: r) S Q E h :=
 ae (cg ex hw) (ae (ca (by simp only [evE, look, Nat.beq_refl, cond_true]) h1 h2) k)
theorem gL {β : Type} {t : TR β} {y : β} {x : Operand} {a : PV} {off sz sz2 : Nat} {agg agg2 : Bool} (g : ∃ w, fieldR off sz agg a = some w ∧ t.R y w) (ex : evE E x = some (.fp a)) (h1 : t.sz = sz2) (h2 : t.ag = agg2) (k : ∀ w, t.R y w → RD P r S Q ((d2, w) :: (d, .fp w) :: E) h) : RD P (⟨some d, .faddr off sz agg x, none, hf⟩ :: ⟨some d2, .load sz2 agg2 (.tmp d), none, hf2⟩ :: r) S Q E h := by
 obtain ⟨w, e, q⟩ := g
 exact fL ex e (by rw [TR.cnt t q, h1]) (by rw [TR.agg t q, h2]) (k w q)
theorem cL {g : FuncId} {a1 : List PV} {v : PV} (hfn : FnR P g a1 v) (ef : evE E f = some (.fn (.func g) [] [])) (ea : evL E args = some a1) (hc : closedL a1 = true) (k : RD P r S Q ((d, v) :: E) h) : RD P (⟨some d, .call f args, none, hf⟩ :: r) S Q E h := ag7 (nw ef ea hc hfn) k
theorem bw (n : Nat) {d : Nat} {v : PV} (H : ∀ (S : List Fr) (Q : Post) (r : List AOper), RD P r S Q ((d, v) :: E) h → RD P (l.take n ++ r) S Q E h) (k : RD P (l.drop n) S Q ((d, v) :: E) h) : RD P l S Q E h := by
 rw [← List.take_append_drop n l]; exact H S Q _ k
theorem gK {c x y : Operand} {u a b v : PV} (ec : evE E c = some u) (ex : evE E x = some a) (ey : evE E y = some b) (hp : pickR u a b = some v) (s : E0.map (fun p => look p.1 ((d, v) :: E)) = E0.map (fun p => some p.2)) (k : RD P r S Q E0 h) : RD P (⟨some d, .pick c x y, none, hf⟩ :: r) S Q E h :=
 ae (mw ec ex ey hp) (ae8 (sB s) k)
def skipE : Nat → TEnv → List AOper → Option (TEnv × List AOper)
 | 0, E, l => some (E, l)
 | n + 1, E, ⟨some d, op, some (t, w), hf⟩ :: r => match look t E with
   | some (.sc (.bool b)) => if b = w then none else skipE n ((d, .tup []) :: E) r
   | some (.tup []) => skipE n ((d, .tup []) :: E) r
   | _ => none
 | _, _, _ => none
theorem skips : ∀ (n : Nat) {E E1 : TEnv} {l l1 : List AOper}, skipE n E l = some (E1, l1) → RD P l1 S Q E1 h → RD P l S Q E h
 | 0, E, E1, l, l1, e, k => by simp only [skipE, Option.some.injEq, Prod.mk.injEq] at e; obtain ⟨rfl, rfl⟩ := e; exact k
 | n + 1, E, E1, [], l1, e, k => by simp [skipE] at e
 | n + 1, E, E1, ⟨none, op, g, hf⟩ :: r, l1, e, k => by simp [skipE] at e
 | n + 1, E, E1, ⟨some d, op, none, hf⟩ :: r, l1, e, k => by simp [skipE] at e
 | n + 1, E, E1, ⟨some d, op, some (t, w), hf⟩ :: r, l1, e, k => by
   simp only [skipE] at e
   split at e
   ·rename_i b hb
    split at e
    ·cases e
    ·rename_i hne
     refine iv hb ?_ (skips n e k)
     cases b <;> cases w <;> simp_all
   ·rename_i hb
    exact bi8 hb (skips n e k)
   ·cases e
theorem gN (n : Nat) {E1 : TEnv} {c x y : Operand} {u a b v : PV} (e : skipE n E l = some (E1, ⟨some d, .pick c x y, none, hf⟩ :: r)) (ec : evE E1 c = some u) (ex : evE E1 x = some a) (ey : evE E1 y = some b) (hp : pickR u a b = some v) (s : E0.map (fun p => look p.1 ((d, v) :: E1)) = E0.map (fun p => some p.2)) (k : RD P r S Q E0 h) : RD P l S Q E h :=
 skips n e (gK ec ex ey hp s k)
end
end Go.Pb
