import Derived.Test.YthdnpgpnodgicaaGreatPbC
import Derived.Sort.Grow
import Derived.Test.YthdnpgpnodgicaaGreatPbK
set_option linter.all false
namespace Go.Pb
open Go Go.RowKit
section
variable {P : Program} {S : List Fr} {Q : Post} {E : TEnv} {h : Heap} {hf : Bool} {L : List Ent} {r : List AOper} {ty : TypeId} {sz : Nat}
theorem RelP.cut {w0 : World} {F0 : Nat → Prop} {x : Cx} (R : RelP P w0 F0 h x) {id ver m : Nat} {t : TypeId} {cs : List PV} (hb : h.bl[id]? = some (.cells ver t true cs)) : RelP P w0 F0 (hput h id (.cells ver t true (cs.take m))) x := by
 have hset : ∀ (k : Nat) blk, (h.bl.set id (.cells ver t true (cs.take m)))[k]? = some blk → ∃ blk', h.bl[k]? = some blk' ∧ blk'.ver = blk.ver ∧ (blk = blk' ∨ (k = id ∧ blk = .cells ver t true (cs.take m))) := fun k blk hk => by
  rcases xe k blk hk with ⟨rfl, rfl⟩ | ⟨hne, hk'⟩
  ·exact ⟨_, hb, rfl, .inr ⟨rfl, rfl⟩⟩
  ·exact ⟨blk, hk', rfl, .inl rfl⟩
 refine ⟨R.below, R.f0, R.fsub, R.fnew, R.own, R.fresh, fun id1 id2 b1 b2 b h1 h2 h3 h4 => ?_, fun k blk hk => ?_⟩
 ·obtain ⟨c1, e1, v1, _⟩ := hset id1 b1 h1
  obtain ⟨c2, e2, v2, _⟩ := hset id2 b2 h2
  exact R.inj id1 id2 c1 c2 b e1 e2 (by rw [v1]; exact h3) (by rw [v2]; exact h4)
 ·obtain ⟨c1, e1, v1, hc⟩ := hset k blk hk
  rcases hc with rfl | ⟨rfl, rfl⟩
  ·exact R.hr k _ e1
  ·intro b hj
   obtain ⟨⟨cur, h5, h6, h7⟩, h8⟩ := R.hr k _ hb b hj
   refine ⟨⟨cur, h5, by simp; omega, ?_⟩, h8⟩
   have := VRL_take m h7
   rw [List.take_take] at this
   rw [List.length_take]
   exact this
def cpF {α : Type} [Inhabited α] [DecidableEq α] (l : List α) : Nat → List α
 | 0 => []
 | m + 1 => cpF l m ++ (if m = 0 ∨ ix l (m : Int) ≠ ix l ((m : Int) - 1) then [ix l (m : Int)] else [])
def cpt {α : Type} [Inhabited α] [DecidableEq α] (l : List α) : List α := cpF l l.length
end
end Go.Pb
namespace Go.Pb
open Go Go.RowKit
section
variable {P : Program} {h : Heap} {ty : TypeId} {sz : Nat}
theorem VRL_sc_eq {x : Cx} : ∀ {us l : List Value}, VRL P x (us.map .sc) l → l = us
 | [], [], _ => rfl
 | [], _ :: _, h => by simp [VRL] at h
 | _ :: _, [], h => by simp [VRL] at h
 | u :: us, v :: l, h => by
   simp only [List.map_cons, VRL, VRC, List.cons.injEq, and_true] at h
   rw [h.2.1.1, VRL_sc_eq h.2.2]
theorem bg6 {w : World} {b : Nat} {cur : Array Value} {us : List Value} (hc : w.heap[b]? = some (.cells cur ty (0, 0))) (hu : cur.toList.take us.length = us) : Go.Sort.Holds (id : Value → Value) w b 0 us.toArray := by
 intro j hj
 have hj' : j < us.length := by simpa using hj
 have hg : cur.toList[j]? = some us[j] := by
  have := congrArg (fun l => l[j]?) hu
  simp only [List.getElem?_take, hj', if_true] at this
  rw [this, List.getElem?_eq_getElem hj']
 constructor
 ·simp only [World.cell?, hc, Option.isSome_none, Bool.false_eq_true, if_false, Nat.zero_add, id]
  rw [← Array.getElem?_toList, hg]
  simp [hj']
 ·simp [World.frozen?, hc]
theorem bc3 {w : World} {b : Nat} {cur : Array Value} {us : List Value} (hc : w.heap[b]? = some (.cells cur ty (0, 0))) (hl : us.length ≤ cur.size) : Go.Sort.putRow (id : Value → Value) w b 0 us.toArray = w.setRow b (us ++ cur.toList.drop us.length).toArray := by
 have hcut : Go.Sort.putCells (id : Value → Value) 0 us.toArray cur = (us ++ cur.toList.drop us.length).toArray := by
  apply Array.ext'
  apply List.ext_getElem
  ·simp [Go.Sort.putCells]; omega
  ·intro j h1 h2
   simp only [Go.Sort.putCells, Array.toList_mapIdx, List.getElem_mapIdx, Nat.zero_le, true_and, Nat.zero_add, List.size_toArray, Nat.sub_zero, id]
   split
   ·rename_i hj
    simp only [List.getElem_append_left hj]
    simp [hj]
   ·rename_i hj
    rw [List.getElem_append_right (by omega), List.getElem_drop]
    congr 1
    omega
 unfold Go.Sort.putRow Go.Sort.mapBlock World.setRow
 congr 1
 apply Array.ext_getElem?
 intro k
 simp only [Array.getElem?_modify]
 by_cases hk : b = k
 ·subst hk
  simp only [if_true, hc, Option.map_some, Go.Sort.onCells, hcut]
 ·simp [hk]
theorem cu4 {g : FuncId} (he : Enters P g) {id ver n : Nat} {R : List Ent} {es es' : List PV} {us us' : List Value} {rest : List PV} {crest : List Value} (M : Mem h (⟨.os id ver 0 n, ty, sz, es⟩ :: R)) (e1 : rowCells es = some (us.map .sc)) (e2 : rowCells es' = some (us'.map .sc)) (hc' : ∀ x ∈ es', cnt x = some sz) (hlen : us'.length = us.length) (hes : es'.length = es.length) (h1 : ∀ u ∈ us', u.oneCell' = true)
 (hr : ∀ x cargs, VRV P x rest cargs → cargs = crest)
 (H : ∀ (w : World) (b cap : Nat), b < w.heap.size → Go.Sort.Holds (_root_.id : Value → Value) w b 0 us.toArray → Calls P g (.slice (some ⟨b, 0, none⟩) n cap :: crest).toArray w fun e w' => e = .returned (.tuple #[]) ∧ ∃ q os, w' = Go.Sort.grow (Go.Sort.putRow (_root_.id : Value → Value) (Go.Sort.ahead w q) b 0 us'.toArray) os) :
 ∃ h2, FnX P g (.os id ver 0 n :: rest) h (.tup []) h2 ∧ Mem h2 (⟨.os id ver 0 n, ty, sz, es'⟩ :: R) := by
 obtain ⟨hcn, hn, cs, hcs, hb⟩ := M.atF (k := 0) rfl
 rw [e1] at hcs
 simp only [Option.some.injEq] at hcs
 subst hcs
 refine ⟨hput h id (.cells ver ty true (us'.map .sc)), ⟨he, fun w0 F0 x cargs R0 hv => ?_⟩, ?_⟩
 ·cases cargs with
  | nil => simp [VRV] at hv
  | cons u cr =>
    simp only [VRV] at hv
    obtain ⟨hu, hrest⟩ := hv
    have hcr := hr x cr hrest
    subst hcr
    simp only [AsVal, PV.isAgg, VRC, List.cons.injEq, and_true] at hu
    obtain ⟨b, cap, hj, rfl, -, -, -⟩ := hu
    obtain ⟨cur, hcur, hcl, hvr⟩ := jw R0 hb hj
    have htk := VRL_sc_eq hvr
    simp only [List.length_map] at hcl htk
    have hblt : b < x.w.heap.size := (R0.own id ver b hj).2
    refine (H x.w b cap hblt (bg6 hcur htk)).mono ?_
    rintro e w' ⟨rfl, q, os, hw⟩
    have hw2 : w' = Go.Sort.grow (Go.Sort.ahead (x.w.setRow b (us' ++ cur.toList.drop us'.length).toArray) q) os := by
     rw [hw, Go.Sort.putRow_ahead, bc3 hcur (by omega)]
    have hvl : VRL P x (us'.map .sc) ((us' ++ cur.toList.drop us'.length).toArray.toList.take (us'.map PV.sc).length) := by
     simp only [List.length_map, List.take_left']
     exact VRL_sc P x us' (by rw [List.all_eq_true]; exact h1)
    obtain ⟨R1, E1⟩ := R0.setOwn (us := (us' ++ cur.toList.drop us'.length).toArray) hb hj hcur (by simp; omega) (by simp) hvl (.inl ⟨rfl, rfl⟩) (bl' := h.bl.set id (.cells ver ty true (us'.map .sc))) xe
    generalize hy1 : (⟨x.w.setRow b (us' ++ cur.toList.drop us'.length).toArray, x.F, updJ x.J id ver b⟩ : Cx) = y1 at R1 E1
    have hyw : y1.w = x.w.setRow b (us' ++ cur.toList.drop us'.length).toArray := by rw [← hy1]
    have G : Grow y1 ⟨w', y1.F, y1.J⟩ := by
     refine ⟨⟨⟨?_, ?_, ?_, ?_, fun k hk => ?_⟩, ?_⟩, rfl, fun _ h => h, fun _ h => .inl h⟩
     ·rw [hw2, hyw]; rfl
     ·rw [hw2, hyw]; rfl
     ·rw [hw2, hyw]; rfl
     ·rw [hw2, hyw]; simp [Go.Sort.grow, Go.Sort.ahead]
     ·rw [hw2, hyw]
      rw [hyw] at hk
      simp only [Go.Sort.grow, Go.Sort.ahead]
      rw [Array.getElem?_append_left hk]
     ·rw [hw2, hyw]; exact aj3 (Nat.le_add_right _ _)
    exact ⟨.tuple #[], .tup [], _, ⟨w', y1.F, y1.J⟩, rfl, rfl, ⟨rfl, rfl⟩, R1.grow G, E1.trans (R1.ext_of_grow G), ⟨[], rfl, by simp [VRV]⟩⟩
 ·refine M.upd (k := 0) rfl ⟨hc', by rw [hn, hes], _, e2, tw _ _ _ (mr hb)⟩ (fun i hi => .inl hi) fun i hi hne => ?_
  exact je _ _ _ _ fun e => hne (by simp [idOf, e])
theorem by9 {g : FuncId} (he : Enters P g) {R : List Ent} {a : PV} {rest : List PV} {crest : List Value} (M : Mem h (⟨a, ty, sz, []⟩ :: R)) (ne : isL a = true) (hr : ∀ x cargs, VRV P x rest cargs → cargs = crest)
 (H : ∀ (w : World) (p : Option Addr) (cap : Nat), Calls P g (.slice p 0 cap :: crest).toArray w fun e w' => e = .returned (.tuple #[]) ∧ w' = w) : FnX P g (a :: rest) h (.tup []) h := by
 have HE := M.at (k := 0) rfl
 refine ⟨he, fun w0 F0 x cargs R0 hv => ?_⟩
 cases cargs with
 | nil => simp [VRV] at hv
 | cons u cr =>
   simp only [VRV] at hv
   obtain ⟨hu, hrest⟩ := hv
   have hcr := hr x cr hrest
   subst hcr
   have key : ∃ p cap, u = .slice p 0 cap := by
    have H2 := HE.2
    unfold EntV at H2
    split at H2
    ·rename_i hv'; simp only at hv'; rw [hv'] at ne; cases ne
    ·rename_i id ver n hv'
     simp only at hv' H2
     subst hv'
     obtain ⟨hn, _⟩ := H2
     have : n = 0 := hn
     subst this
     simp only [AsVal, PV.isAgg, VRC, List.cons.injEq, and_true] at hu
     obtain ⟨b, cap, -, rfl, -⟩ := hu
     exact ⟨_, _, rfl⟩
    ·rename_i ad hv'
     simp only at hv'
     subst hv'
     exact ⟨_, _, qs hu⟩
    ·rename_i es' hv'
     simp only at hv' H2
     subst hv' H2
     simp only [AsVal, PV.isAgg, VRC, List.cons.injEq, and_true, List.length_nil] at hu
     obtain ⟨b, o, cap, sz, rfl, -⟩ := hu
     exact ⟨_, _, rfl⟩
    ·rename_i hv'; simp only at hv'; rw [hv'] at ne; cases ne
    ·exact H2.elim
   obtain ⟨p, cap, rfl⟩ := key
   refine (H x.w p cap).mono ?_
   rintro e w' ⟨rfl, rfl⟩
   exact ⟨.tuple #[], .tup [], h, x, rfl, rfl, ⟨rfl, rfl⟩, R0, Ext.refl x, ⟨[], rfl, by simp [VRV]⟩⟩
theorem xc {α : Type} {mk : α → PV} {enc : α → List Value} (hm : ∀ x, (mk x).cellsOf = some ((enc x).map .sc)) : ∀ (l : List α), rowCells (l.map mk) = some ((l.flatMap enc).map .sc)
 | [] => rfl
 | x :: l => by simp only [List.map_cons, rowCells, hm, xc hm l, List.flatMap_cons, List.map_append]
theorem az9 {α : Type} {R : α → PV → Prop} {mk : α → PV} (hR : ∀ x v, R x v → v = mk x) : ∀ {l : List α} {es : List PV}, All2 R l es → es = l.map mk
 | [], [], _ => rfl
 | [], _ :: _, h => by simp [All2] at h
 | _ :: _, [], h => by simp [All2] at h
 | x :: l, e :: es, h => by rw [List.map_cons, hR x e h.1, ← az9 hR h.2]
theorem az0 {α : Type} {R : α → PV → Prop} {mk : α → PV} (hR : ∀ x, R x (mk x)) : ∀ (l : List α), All2 R l (l.map mk)
 | [] => trivial
 | x :: l => ⟨hR x, az0 hR l⟩
theorem uq {α : Type} {enc : α → List Value} {k : Nat} (hk : ∀ x, (enc x).length = k) : ∀ (l : List α), (l.flatMap enc).length = l.length * k
 | [] => by simp
 | x :: l => by rw [List.flatMap_cons, List.length_append, hk, uq hk l, List.length_cons, Nat.succ_mul]; omega
theorem dq3 {α : Type} {t : TR α} {mk : α → PV} {enc : α → List Value} {g : FuncId} (he : Enters P g) (hR : ∀ x v, t.R x v → v = mk x) (hR2 : ∀ x, t.R x (mk x)) (hm : ∀ x, (mk x).cellsOf = some ((enc x).map .sc)) (hk : ∀ x, (enc x).length = t.sz) (h1 : ∀ x, ∀ u ∈ enc x, u.oneCell' = true) {l l' : List α} (hll : l'.length = l.length)
 {a : PV} {es : List PV} {R : List Ent} {rest : List PV} {crest : List Value} (hr : ∀ x cargs, VRV P x rest cargs → cargs = crest) (q : All2 t.R l es) (ne : isL a = true) (wi : Wri a es) (M : Mem h (⟨a, ty, t.sz, es⟩ :: R))
 (H0 : l = [] → ∀ (w : World) (p : Option Addr) (cap : Nat), Calls P g (.slice p 0 cap :: crest).toArray w fun e w' => e = .returned (.tuple #[]) ∧ w' = w)
 (H : ∀ (w : World) (b cap : Nat), b < w.heap.size → Go.Sort.Holds (_root_.id : Value → Value) w b 0 (l.flatMap enc).toArray → Calls P g (.slice (some ⟨b, 0, none⟩) l.length cap :: crest).toArray w fun e w' => e = .returned (.tuple #[]) ∧ ∃ q os, w' = Go.Sort.grow (Go.Sort.putRow (_root_.id : Value → Value) (Go.Sort.ahead w q) b 0 (l'.flatMap enc).toArray) os) :
 ∃ r h2, FnX P g (a :: rest) h r h2 ∧ ∃ es', Mem h2 (⟨a, ty, t.sz, es'⟩ :: R) ∧ All2 t.R l' es' ∧ Wri a es' ∧ r = .tup [] := by
 have hes := az9 hR q
 rcases wi with rfl | ⟨id, ver, n, rfl⟩
 ·have hl0 : l = [] := by
   cases l with
   | nil => rfl
   | cons _ _ => simp at hes
  have hl0' : l' = [] := by
   cases l' with
   | nil => rfl
   | cons _ _ => rw [hl0] at hll; simp at hll
  subst hl0'
  exact ⟨_, h, by9 he M ne hr (H0 hl0), [], M, trivial, .inl rfl, rfl⟩
 ·have hn : n = l.length := by rw [cr2 M (k := 0) rfl, All2.length_eq q]
  subst hn
  obtain ⟨h2, X, M2⟩ := cu4 (es' := l'.map mk) (us := l.flatMap enc) (us' := l'.flatMap enc) he M (by rw [hes]; exact xc hm l) (xc hm l') (fun x hx => by
   obtain ⟨y, _, rfl⟩ := List.mem_map.1 hx
   exact t.cnt (hR2 y)) (by rw [uq hk, uq hk, hll]) (by rw [List.length_map, hll, hes, List.length_map]) (fun u hu => by
   obtain ⟨y, _, hy⟩ := List.mem_flatMap.1 hu
   exact h1 y u hy) hr H
  exact ⟨_, h2, X, _, M2, az0 hR2 l', .inr ⟨_, _, _, rfl⟩, rfl⟩
theorem ax9 (l : List Int) : l.flatMap (fun z => [Value.int .i64 z]) = l.map (Value.int .i64) := by
 induction l with
 | nil => rfl
 | cons x l ih => rw [List.flatMap_cons, ih]; rfl
theorem bv7 {w : World} {b : Nat} {l : List Int} (H : Go.Sort.Holds (_root_.id : Value → Value) w b 0 (l.map (Value.int .i64)).toArray) : Go.Sort.Holds (Value.int .i64) w b 0 l.toArray := fun j hj => by
 have hj' : j < l.length := by simpa using hj
 have := H j (by simpa using hj')
 simpa [hj'] using this
theorem bg1 {w : World} {b : Nat} {l : List Int} : Go.Sort.putRow (Value.int .i64) w b 0 l.toArray = Go.Sort.putRow (_root_.id : Value → Value) w b 0 (l.map (Value.int .i64)).toArray := by
 unfold Go.Sort.putRow
 refine Go.Sort.mapBlock_congr _ _ _ _ fun c _ _ _ => ?_
 unfold Go.Sort.putCells
 apply Array.ext
 ·simp
 ·intro j h1 h2
  simp only [Array.getElem_mapIdx, List.size_toArray, List.length_map, Nat.zero_le, true_and, Nat.zero_add, Nat.sub_zero, id]
  split
  ·rename_i hj; simp [hj]
  ·rfl
theorem bf3 {g : FuncId} (he : Enters P g)
 (H : ∀ (blk off cap : Nat) (zs : List Int) (w : World), Go.Sort.Holds (Value.int .i64) w blk off zs.toArray → blk < w.heap.size → zs.length < 4611686018427387904 → Calls P g #[.slice (some ⟨blk, off, none⟩) zs.length cap] w fun e w' => e = .returned (.tuple #[]) ∧ ∃ n os, w' = Go.Sort.grow (Go.Sort.putRow (Value.int .i64) (Go.Sort.ahead w n) blk off (zs.mergeSort fun x y => decide (x ≤ y)).toArray) os)
 (H0 : ∀ (p : Option Addr) (cap : Nat) (w : World), Calls P g #[.slice p 0 cap] w fun e w' => e = .returned (.tuple #[]) ∧ w' = w)
 {l : List Int} {a : PV} {es : List PV} {R : List Ent} (q : All2 tI.R l es) (ne : isL a = true) (hl : l.length ≤ 1000000) (wi : Wri a es) (M : Mem h (⟨a, ty, 1, es⟩ :: R)) :
 ∃ r h2, FnX P g [a] h r h2 ∧ ∃ es', Mem h2 (⟨a, ty, 1, es'⟩ :: R) ∧ All2 tI.R (l.mergeSort fun x y => decide (x ≤ y)) es' ∧ Wri a es' ∧ r = .tup [] := by
 refine dq3 (t := tI) (mk := vi) (enc := fun z => [Value.int .i64 z]) (crest := []) he (fun x v h => h) (fun x => rfl) (fun x => rfl) (fun x => rfl) (fun x u hu => by simp at hu; subst hu; rfl) (List.length_mergeSort _) (fun x cargs hv => by cases cargs with
  | nil => rfl
  | cons _ _ => simp [VRV] at hv) q ne wi M (fun _ w p cap => H0 p cap w) fun w b cap hb hh => ?_
 rw [ax9] at hh
 refine (H b 0 cap l w (bv7 hh) hb (by omega)).mono ?_
 rintro e w' ⟨rfl, n, os, rfl⟩
 exact ⟨rfl, n, os, by rw [ax9, bg1]⟩
end
end Go.Pb
namespace Go.Pb
open Go Go.RowKit
theorem qa : (∀ a b : Bool, ((a || b) = true) = (a = true ∨ b = true)) ∧ (∀ a b : Bool, (a || b) = false ↔ a = false ∧ b = false) ∧ (∀ a b : Bool, ((a && b) = true) = (a = true ∧ b = true)) ∧ (∀ a b : Bool, (a && b) = false ↔ (a = true → b = false)) ∧ (∀ (p : Prop) [Decidable p], (decide p = true) = p) ∧ (∀ (p : Prop) [Decidable p], decide p = false ↔ ¬p) ∧ (∀ a : Bool, ((!a) = true) = (a = false)) ∧ (∀ a : Bool, ((!a) = false) = (a = true)) ∧ (∀ a : Bool, (¬a = true) = (a = false)) ∧ (∀ a : Bool, (¬a = false) = (a = true)) ∧ ((!true) = false) ∧ ((!false) = true) ∧ (∀ n : Nat, Int.ofNat n = (n : Int)) ∧ (∀ n : Nat, Int.negSucc n = -((n : Int) + 1)) ∧ (∀ (α : Type) (a b : α), (a ≠ b) = ¬a = b) :=
 ⟨Bool.or_eq_true, fun _ _ => Bool.or_eq_false_iff, Bool.and_eq_true, fun _ _ => Bool.and_eq_false_imp, fun _ _ => decide_eq_true_eq, fun _ _ => decide_eq_false_iff_not, Bool.not_eq_true', Bool.not_eq_false', Bool.not_eq_true, Bool.not_eq_false, rfl, rfl, fun _ => rfl, fun _ => Int.negSucc_eq _, fun _ a b => ne_eq a b⟩
theorem sB {E : TEnv} : ∀ {E0 : TEnv}, E0.map (fun p => look p.1 E) = E0.map (fun p => some p.2) → SubE E E0
 | [], _ => cr1 E
 | (d, v) :: r, h => by
   simp only [List.map_cons, List.cons.injEq] at h
   exact ko h.1 (sB h.2)
def cO (P : Program) (own : List Tmp) (n : Nat) (f : Func) : AC := (compC P own n (f.body.getD .skip)).getD .skip
def loops : AC → List AC
 | .seq a b => loops a ++ loops b
 | .cond _ a b => loops a ++ loops b
 | .block _ b => loops b
 | .scope b => loops b
 | .loop b => b :: loops b
 | _ => []
def lP (k : Nat) (c : AC) : AC := (loops c).getD k .skip
abbrev rdc (c w : AC) (h : c = w) : AC := w
theorem tX {P : Program} {f : FuncId} {own : List Tmp} {n np : Nat} {ac : AC} {rs : List (Tmp × Option (Nat × Bool))} {fn : Func} (e : Enters P f) (fo : P.follows .mixedOrders = true) (h : P.funcs[f]? = some fn)
 (hb : fn.body = some (fn.body.getD .skip)) (hn : fn.ntmps = n) (hp : np ≤ n) (hc : compC P own n (fn.body.getD .skip) = some ac) (hr : compRes P fn.results.toList = some rs) : FnText P f own n np ac rs :=
 ⟨e, fo, fn, _, h, hb, hn, hp, hc, hr⟩
section
variable {P : Program} {S : List Fr} {Q : Post} {E E0 : TEnv} {h h' : Heap} {op : AOp} {hf hf2 : Bool} {v : PV} {r l : List AOper} {d d2 t : Nat} {f : Operand} {args : List Operand} {w b : Bool}
theorem wC {c : AC} (k : RC P c S Q E0 h) (s : E0.map (fun p => look p.1 E) = E0.map (fun p => some p.2)) : RC P c S Q E h := li (sB s) k
theorem wP {id : Nat} (k : PX P id S Q E0 h) (s : E0.map (fun p => look p.1 E) = E0.map (fun p => some p.2)) : PX P id S Q E h := bp4 (sB s) k
theorem wD {l : List AOper} (k : RD P l S Q E0 h) (s : E0.map (fun p => look p.1 E) = E0.map (fun p => some p.2)) : RD P l S Q E h := bk5 (sB s) k
theorem di {α : Type} {c : Operand} {a b : AC} {v : Bool} {x y r : α} (hres : (if v = true then x else y) = r) (hc : evE E c = some (vb v)) (h1 : v = true → x = r → RC P a S Q E h) (h2 : v = false → y = r → RC P b S Q E h) : RC P (.cond c a b) S Q E h :=
 bc hc (fun e => h1 e ((dy9 e).symm.trans hres)) (fun e => h2 e ((ef2 e).symm.trans hres))
theorem fnS {f : FuncId} {own : List Tmp} {n np : Nat} {ac : AC} {rs : List (Tmp × Option (Nat × Bool))} {args : List PV} {α : Type} {e : α} {v : PV} {R : α → PV → Prop} (X : FnText P f own n np ac rs)
 (hr : ∀ r, R e r → r = v) (hn : Nat.ble args.length np = true) (H : ∀ res, e = res → RC P ac [] (QR P rs (R res)) (argE 0 args) ⟨0, []⟩) : FnR P f args v := by
 obtain ⟨r, h1, h2⟩ := fnE X (Nat.le_of_ble_eq_true hn) (H e rfl)
 rw [← hr r h2]; exact h1
theorem fnT {f : FuncId} {own : List Tmp} {n np : Nat} {ac : AC} {rs : List (Tmp × Option (Nat × Bool))} {args : List PV} {α : Type} {e : α} {R : α → PV → Prop} (X : FnText P f own n np ac rs)
 (hn : Nat.ble args.length np = true) (H : ∀ res, e = res → RC P ac [] (QR P rs (R res)) (argE 0 args) ⟨0, []⟩) : ∃ r, FnR P f args r ∧ R e r := fnE X (Nat.le_of_ble_eq_true hn) (H e rfl)
theorem aL {α : Type} {R : α → PV → Prop} : All2 R [] [] := trivial
theorem rR {α : Type} {t : Tmp} {R : α → PV → Prop} {e res : α} {v : PV} (hres : e = res) (hv : look t E = some v) (hc : closed v = true) (hr : R e v) : RC P .ret S (QR P [(t, none)] (R res)) E h := by
 subst hres; exact dw (.tmp hv .nil) (ck hc) hr
theorem rT {α : Type} {t t' : Tmp} {R : α → PV → Prop} {e res : α} {v v' : PV} (hres : e = res) (hv : look t E = some v) (hv' : look t' E = some v') (hc : closed v = true) (hc' : closed v' = true) (hr : R e (.tup [v, v'])) : RC P .ret S (QR P [(t, none), (t', none)] (R res)) E h := by
 subst hres; exact dw (.tmp hv (.tmp hv' .nil)) (ck (show closed (.tup _) = true from aq hc (aq hc' bg))) hr
theorem sR {d : Bool} {al : List AOper} {b : AC} (k : RD P al (.seq b :: S) Q E h) : RC P (.seq (.region d al) b) S Q E h := ah (af k)
theorem nS {b : AC} (k : RC P b S Q E h) : RD P [] (.seq b :: S) Q E h := k
theorem nR {d : Bool} {al : List AOper} {b : AC} (k : RD P al (.seq b :: S) Q E h) : RD P [] (.seq (.seq (.region d al) b) :: S) Q E h := aw (ai (sR k))
theorem mV {x : Operand} {a : PV} (ex : evE E x = some a) (k : RD P r S Q ((d, a) :: E) h) : RD P (⟨some d, .move x, none, hf⟩ :: r) S Q E h := ab (au ex) k
theorem mI {x : Operand} {n : Int} (ex : evE E x = some (vi n)) (k : RD P r S Q ((d, vi n) :: E) h) : RD P (⟨some d, .move x, none, hf⟩ :: r) S Q E h := ab (au ex) k
theorem mB {x : Operand} {n : Bool} (ex : evE E x = some (vb n)) (k : RD P r S Q ((d, vb n) :: E) h) : RD P (⟨some d, .move x, none, hf⟩ :: r) S Q E h := ab (au ex) k
theorem bN {op : BinOp} {t : TypeId} {x y : Operand} {a b v : PV} (hb : binF P op t x y a b = some v) (ex : evE E x = some a) (ey : evE E y = some b) (k : RD P r S Q ((d, v) :: E) h) : RD P (⟨some d, .bin op t x y, none, hf⟩ :: r) S Q E h := ab (ba ex ey hb) k
theorem xT {x : Operand} {vs : List PV} {k : Nat} {v : PV} (ex : evE E x = some (.tup vs)) (hk : vs[k]? = some v) (K : RD P r S Q ((d, v) :: E) h) : RD P (⟨some d, .extract x k, none, hf⟩ :: r) S Q E h := ab (ft ex hk) K
theorem fA {x : Operand} {a w : PV} {off sz : Nat} {agg : Bool} (ex : evE E x = some (.fp a)) (hw : fieldR off sz agg a = some w) (k : RD P r S Q ((d, .fp w) :: E) h) : RD P (⟨some d, .faddr off sz agg x, none, hf⟩ :: r) S Q E h := ab (bz ex hw) k
theorem lD {α : Type} {t : TR α} {s : α} {a : PV} {x : Operand} {sz : Nat} {agg : Bool} (q : t.R s a) (ex : evE E x = some (.fp a)) (h1 : t.sz = sz) (h2 : t.ag = agg) (k : RD P r S Q ((d, a) :: E) h) : RD P (⟨some d, .load sz agg x, none, hf⟩ :: r) S Q E h := ab (br ex (by rw [TR.cnt t q, h1]) (by rw [TR.agg t q, h2])) k
theorem lR {a : PV} {x : Operand} {sz : Nat} {agg : Bool} (ex : evE E x = some (.fp a)) (h1 : cnt a = some sz) (h2 : a.isAgg = agg) (k : RD P r S Q ((d, a) :: E) h) : RD P (⟨some d, .load sz agg x, none, hf⟩ :: r) S Q E h := ab (br ex h1 h2) k
theorem fL {x : Operand} {a w : PV} {off sz sz2 : Nat} {agg agg2 : Bool} (ex : evE E x = some (.fp a)) (hw : fieldR off sz agg a = some w) (h1 : cnt w = some sz2) (h2 : w.isAgg = agg2) (k : RD P r S Q ((d2, w) :: (d, .fp w) :: E) h) : RD P (⟨some d, .faddr off sz agg x, none, hf⟩ :: ⟨some d2, .load sz2 agg2 (.tmp d), none, hf2⟩ :: r) S Q E h :=
 ab (bz ex hw) (ab (br (by simp only [evE, look, Nat.beq_refl, cond_true]) h1 h2) k)
theorem gL {β : Type} {t : TR β} {y : β} {x : Operand} {a : PV} {off sz sz2 : Nat} {agg agg2 : Bool} (g : ∃ w, fieldR off sz agg a = some w ∧ t.R y w) (ex : evE E x = some (.fp a)) (h1 : t.sz = sz2) (h2 : t.ag = agg2) (k : ∀ w, t.R y w → RD P r S Q ((d2, w) :: (d, .fp w) :: E) h) : RD P (⟨some d, .faddr off sz agg x, none, hf⟩ :: ⟨some d2, .load sz2 agg2 (.tmp d), none, hf2⟩ :: r) S Q E h := by
 obtain ⟨w, e, q⟩ := g
 exact fL ex e (by rw [TR.cnt t q, h1]) (by rw [TR.agg t q, h2]) (k w q)
theorem cL {g : FuncId} {a1 : List PV} {v : PV} (hfn : FnR P g a1 v) (ef : evE E f = some (.fn (.func g) [] [])) (ea : evL E args = some a1) (hc : closedL a1 = true) (k : RD P r S Q ((d, v) :: E) h) : RD P (⟨some d, .call f args, none, hf⟩ :: r) S Q E h := wz (sj ef ea hc hfn) k
theorem cn (n : Nat) {d : Nat} {v : PV} (H : ∀ (S : List Fr) (Q : Post) (r : List AOper), RD P r S Q ((d, v) :: E) h → RD P (l.take n ++ r) S Q E h) (k : RD P (l.drop n) S Q ((d, v) :: E) h) : RD P l S Q E h := by
 rw [← List.take_append_drop n l]; exact H S Q _ k
theorem gK {c x y : Operand} {u a b v : PV} (ec : evE E c = some u) (ex : evE E x = some a) (ey : evE E y = some b) (hp : pickR u a b = some v) (s : E0.map (fun p => look p.1 ((d, v) :: E)) = E0.map (fun p => some p.2)) (k : RD P r S Q E0 h) : RD P (⟨some d, .pick c x y, none, hf⟩ :: r) S Q E h :=
 ab (vc ec ex ey hp) (bk5 (sB s) k)
def skipE : Nat → TEnv → List AOper → Option (TEnv × List AOper)
 | 0, E, l => some (E, l)
 | n + 1, E, ⟨some d, op, some (t, w), hf⟩ :: r => match look t E with
   | some (.sc (.bool b)) => if b = w then none else skipE n ((d, .tup []) :: E) r
   | some (.tup []) => skipE n ((d, .tup []) :: E) r
   | _ => none
 | _, _, _ => none
theorem skips : ∀ (n : Nat) {E E1 : TEnv} {l l1 : List AOper}, skipE n E l = some (E1, l1) → RD P l1 S Q E1 h → RD P l S Q E h
 | 0, E, E1, l, l1, e, k => by simp only [skipE, Option.some.injEq, Prod.mk.injEq] at e; obtain ⟨rfl, rfl⟩ := e; exact k
 | n + 1, E, E1, [], l1, e, k => by simp [skipE] at e
 | n + 1, E, E1, ⟨none, op, g, hf⟩ :: r, l1, e, k => by simp [skipE] at e
 | n + 1, E, E1, ⟨some d, op, none, hf⟩ :: r, l1, e, k => by simp [skipE] at e
 | n + 1, E, E1, ⟨some d, op, some (t, w), hf⟩ :: r, l1, e, k => by
   simp only [skipE] at e
   split at e
   ·rename_i b hb
    split at e
    ·cases e
    ·rename_i hne
     refine sx hb ?_ (skips n e k)
     cases b <;> cases w <;> simp_all
   ·rename_i hb
    exact cn1 hb (skips n e k)
   ·cases e
theorem gN (n : Nat) {E1 : TEnv} {c x y : Operand} {u a b v : PV} (e : skipE n E l = some (E1, ⟨some d, .pick c x y, none, hf⟩ :: r)) (ec : evE E1 c = some u) (ex : evE E1 x = some a) (ey : evE E1 y = some b) (hp : pickR u a b = some v) (s : E0.map (fun p => look p.1 ((d, v) :: E1)) = E0.map (fun p => some p.2)) (k : RD P r S Q E0 h) : RD P l S Q E h :=
 skips n e (gK ec ex ey hp s k)
end
end Go.Pb
namespace Go.Pb
open Go Go.RowKit
section
variable {P : Program} {h : Heap}
theorem Mem.perm {L L' : List Ent} (M : Mem h L) (p : L.Perm L') : Mem h L' :=
 ⟨fun e he => M.ent e (p.mem_iff.2 he), (p.pairwise_iff fun {a b} hab => hab.symm).1 M.dis⟩
structure NsE {α : Type} (t : TR α) (ty : TypeId) (l : List α) (v : PV) (e : Ent) : Prop where
 ad : e.v = v
 ty : e.ty = ty
 sz : e.sz = t.sz
 el : All2 t.R l e.es
 isl : isL v = true
 len : l.length ≤ 4611686018427387904
 wri : Wri v e.es
def Ns {α : Type} (t : TR α) (ty : TypeId) : List (List α) → List PV → List Ent → Prop
 | [], [], [] => True
 | l :: ls, v :: vs, e :: es => NsE t ty l v e ∧ Ns t ty ls vs es
 | _, _, _ => False
section
variable {α : Type} {t : TR α} {ty : TypeId}
theorem Ns.len : ∀ {ls : List (List α)} {vs : List PV} {I : List Ent}, Ns t ty ls vs I → vs.length = ls.length ∧ I.length = ls.length
 | [], [], [], _ => ⟨rfl, rfl⟩
 | l :: ls, v :: vs, e :: es, h => by have := Ns.len h.2; exact ⟨by simp [this.1], by simp [this.2]⟩
 | [], [], _ :: _, h => by simp [Ns] at h
 | [], _ :: _, _, h => by simp [Ns] at h
 | _ :: _, [], _, h => by simp [Ns] at h
 | _ :: _, _ :: _, [], h => by simp [Ns] at h
theorem Ns.get : ∀ {ls : List (List α)} {vs : List PV} {I : List Ent} {k : Nat} (_ : Ns t ty ls vs I) (hk : k < ls.length), ∃ v e, vs[k]? = some v ∧ I[k]? = some e ∧ NsE t ty ls[k] v e
 | l :: ls, v :: vs, e :: es, 0, h, _ => ⟨v, e, rfl, rfl, h.1⟩
 | l :: ls, v :: vs, e :: es, k + 1, h, hk => by
   obtain ⟨w, f, h1, h2, h3⟩ := Ns.get (k := k) h.2 (by simpa using hk)
   exact ⟨w, f, by simpa using h1, by simpa using h2, by simpa using h3⟩
 | [], _, _, _, _, hk => by simp at hk
 | _ :: _, [], _, _, h, _ => by simp [Ns] at h
 | _ :: _, _ :: _, [], _, h, _ => by simp [Ns] at h
theorem Ns.set : ∀ {ls : List (List α)} {vs : List PV} {I : List Ent} {k : Nat} {l : List α} {v : PV} {e : Ent}, Ns t ty ls vs I → NsE t ty l v e → Ns t ty (ls.set k l) (vs.set k v) (I.set k e)
 | [], [], [], _, _, _, _, _, _ => trivial
 | l :: ls, v :: vs, e :: es, 0, _, _, _, h, he => ⟨he, h.2⟩
 | l :: ls, v :: vs, e :: es, k + 1, _, _, _, h, he => ⟨h.1, Ns.set h.2 he⟩
 | [], [], _ :: _, _, _, _, _, h, _ => by simp [Ns] at h
 | [], _ :: _, _, _, _, _, _, h, _ => by simp [Ns] at h
 | _ :: _, [], _, _, _, _, _, h, _ => by simp [Ns] at h
 | _ :: _, _ :: _, [], _, _, _, _, h, _ => by simp [Ns] at h
theorem bs5 {e : Ent} (H : EntR h e) (hne : isL e.v = true) (hc : closedL e.es = true) : ∃ r, DeepC P h e.v r ∧ IsSl r e.es := by
 obtain ⟨v, ty, sz, es⟩ := e
 have M : Mem h [⟨v, ty, sz, es⟩] := ⟨fun x hx => by rw [List.mem_singleton.1 hx]; exact H, List.pairwise_singleton ..⟩
 obtain ⟨r, h1, h2⟩ := ax5 (P := P) (k := 0) M rfl hne hc
 refine ⟨r, ?_, h2⟩
 have H2 := H.2
 have hra : r.isAgg = false := by rcases h2 with ⟨ad, rfl, _⟩ | ⟨tg, rfl⟩ <;> rfl
 simp only at hne hc
 unfold EntV at H2
 split at H2
 ·rename_i hv; simp only at hv; rw [hv] at hne; cases hne
 ·rename_i id ver n hv
  simp only at hv
  subst hv
  refine ⟨h1.1, by rw [hra]; rfl, fun k hk w0 F0 x us R hv => ?_⟩
  have hv0 := hv
  simp only [VRC] at hv
  obtain ⟨b, cap, hj, rfl, _⟩ := hv
  have := h1.2 k hk w0 F0 x _ R hv0
  unfold VR at this
  rw [hra] at this
  exact this
 ·rename_i ad hv
  simp only at hv
  subst hv
  refine ⟨h1.1, by rw [hra]; rfl, fun k hk w0 F0 x us R hv => ?_⟩
  have hv0 := hv
  simp only [VRC] at hv
  obtain ⟨rfl, _⟩ := hv
  have := h1.2 k hk w0 F0 x _ R hv0
  unfold VR at this
  rw [hra] at this
  exact this
 ·rename_i es' hv
  simp only at hv
  subst hv
  refine ⟨h1.1, by rw [hra]; rfl, fun k hk w0 F0 x us R hv => ?_⟩
  have hv0 := hv
  simp only [VRC] at hv
  obtain ⟨b, o, cap, sz, rfl, _⟩ := hv
  have := h1.2 k hk w0 F0 x _ R hv0
  unfold VR at this
  rw [hra] at this
  exact this
 ·rename_i hv; simp only at hv; rw [hv] at hne; cases hne
 ·exact H2.elim
end
end
end Go.Pb
namespace Go.Pb
open Go Go.RowKit
mutual
theorem aa0 (d e : Nat) : ∀ v : PV, closed v = true → shV d e v = v
 | .sc v, _ => rfl
 | .agg cs, h => by rw [shV, sk d e cs (by simpa [closed] using h)]
 | .tup vs, h => by rw [shV, sk d e vs (by simpa [closed] using h)]
 | .fs t es, h => by rw [shV, sk d e es (by simpa [closed] using h)]
 | .fp x, h => by rw [shV, aa0 d e x (by simpa [closed] using h)]
 | .os _ _ _ _, h => by simp [closed] at h
 | .op _ _ _, h => by simp [closed] at h
 | .om _ _, h => by simp [closed] at h
 | .fn f a b, h => by
   simp only [closed, Bool.and_eq_true] at h
   rw [shV, sk d e a h.1, sk d e b h.2]
 | .ifc t v, h => by rw [shV, aa0 d e v (by simpa [closed] using h)]
 | .junk, _ => rfl
theorem sk (d e : Nat) : ∀ l : List PV, closedL l = true → shL d e l = l
 | [], _ => rfl
 | v :: r, h => by
   simp only [closedL, Bool.and_eq_true] at h
   rw [shL, aa0 d e v h.1, sk d e r h.2]
end
theorem Mem.nv {h : Heap} {L : List Ent} (M : Mem h L) (n : Nat) : Mem ⟨n, h.bl⟩ L := ⟨fun e he => (M.ent e he).frame fun _ _ _ => rfl, M.dis⟩
section
variable {P : Program} {S : List Fr} {Q : Post} {E : TEnv} {h h' : Heap} {hf : Bool} {r : List AOper} {d : Nat} {op : AOp} {v : PV} {f : Operand} {args : List Operand} {g : FuncId} {ags : List PV}
def runM' (P : Program) (al : List AOper) (S : List Fr) (Q : Post) (T : Nat → PV) (h : Heap) : Prop := wpM P al T h (asPost P S Q .normal)
def RMg (P : Program) (l : List AOper) (S : List Fr) (Q : Post) (E : TEnv) (h : Heap) : Prop := ∀ T, Ag E T → runM' P l S Q T h
end
section
variable {P : Program} {S : List Fr} {Q : Post} {E : TEnv} {h : Heap} {L : List Ent} {hf : Bool} {r : List AOper} {d k : Nat} {ty : TypeId} {sz : Nat} {o o' : Operand}
end
theorem al1 {P : Program} {h : Heap} {L : List Ent} {E : TEnv} {S : List Fr} {Q : Post} {ty : TypeId} {sz k : Nat} {d : Bool} {id ver : Nat} {x : PV} {l : List AOper} {E' : TEnv} (M : Mem h L) (hk : L[k]? = some ⟨.op id ver 0, ty, sz, [x]⟩) (hE : FrzE (.op id ver 0) (.fp x) E E') (K : ∀ h', Mem h' (L.eraseIdx k) → RD P l S Q E' h') : RC P (.region d l) S Q E h := by
 obtain ⟨hc, x', cs, h1, h2, h3⟩ := M.atF hk
 simp only [List.cons.injEq, and_true] at h1
 subst h1
 have hM : Mem (hput h id (.cells ver ty false cs)) (L.eraseIdx k) := by
  refine ⟨fun e he => ?_, M.dis.sublist (List.eraseIdx_sublist ..)⟩
  obtain ⟨j, hj⟩ := List.getElem?_of_mem he
  rw [List.getElem?_eraseIdx] at hj
  have hjk : ∃ j, j ≠ k ∧ L[j]? = some e := by
   split at hj
   ·exact ⟨j, by omega, hj⟩
   ·exact ⟨j + 1, by omega, hj⟩
  obtain ⟨j, hne, hj⟩ := hjk
  refine (M.ent e (List.mem_of_getElem? hj)).frame fun i hi _ => ?_
  have ha := mj M.dis hk hne hj
  exact je h id i _ fun e' => ha i (by simp [idOf, e']) hi
 intro T hT
 refine .inr (.inr ⟨fun t => match look t E' with | some u => u | none => T t, hput h id (.cells ver ty false cs), ?_, K _ hM _ fun t u e => by simp only [e]⟩)
 intro w0 F0 n' z a R hTm
 obtain ⟨y, ew, eJ, Ex, hF, R'⟩ := R.freeze h3
 refine ⟨y, ew, Ex, R', hTm.size, fun t => ?_, hTm.defers⟩
 have h0 := VR_ext Ex (hTm.at_ t)
 split
 ·rename_i u hu
  obtain ⟨w, h5, h4⟩ := hE t u hu
  rw [hT t w h5] at h0
  have hb : ∀ us, VRC P y (.op id ver 0) us → VRC P y (.fp x) us := fun us hv => by
   have hone : ∃ u, us = [u] := by
    simp only [VRC] at hv
    obtain ⟨b, _, e⟩ := hv
    exact ⟨_, e⟩
   obtain ⟨u, rfl⟩ := hone
   exact VR_frozenp (u := u) R' (tw h id _ (mr h3)) (fun b hj => hF b (by rw [← eJ]; exact hj)) h2 hv
  have := h4.agg_eq rfl
  unfold VR at h0 ⊢
  rw [← this]
  exact AsVal.imp (h4.conv hb) h0
 ·exact h0
end Go.Pb
