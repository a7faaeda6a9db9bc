/-
  digraph.heights, by the kit's laws of a range over a function.
-/
import Derived.Test.YtpdimhpjehfjeaaKBk
import Derived.Test.YtpdimhpjehfjeaaKRg
import Derived.Test.YtpdimhpjehfjeaaPbI
import Derived.IntWalk
import Derived.Shelf.RegionOpen
set_option linter.unusedVariables false
set_option linter.unusedSimpArgs false
namespace Go.Proofs
open Go.RowKit Go.Shelf
attribute [local go_sem] Oper.semAt_some
/-- A graph's rows, where they lie. -/
def He.Rows (W : World) (base : Option Addr) (G : List (List Int)) : Prop := G ≠ [] → ∃ b off, base = some ⟨b, off, none⟩ ∧ b < W.heap.size ∧
  ∀ i, i < G.length → ∃ rb rc, W.cell? ⟨b, off + i, none⟩ = some (.slice rb (G[i]?.getD []).length rc) ∧ (G[i]?.getD [] ≠ [] → ∃ c o, rb = some ⟨c, o, none⟩ ∧ c < W.heap.size ∧ ∀ j, j < (G[i]?.getD []).length → W.cell? ⟨c, o + j, none⟩ = some (.int .i64 ((G[i]?.getD [])[j]?.getD 0)))
theorem He.info3 : (Try.prog.info? 3).map (fun i => (i.zero, i.size, i.bytes)) = some (some (.int .i64 0), 1, 8) := by kernel_rfl
theorem He.mk (n : Nat) (hn : n ≤ 1000) (W : World) : (Instr.makeSlice 31 (.int .i64 (n : Int)) (.int .i64 (n : Int))).run Try.prog W = .ok (.slice (some ⟨W.heap.size, 0, none⟩) n n) (W.alloc (.cells (List.replicate n (Value.int .i64 0)).toArray 3)) := by
  obtain ⟨i, hi, hz, hs, hb⟩ := info_parts He.info3
  have := run_makeSlice (P := Try.prog) W 31 3 i (.int .i64 0) Try.underlying31 hi hz .i64 .i64 (n : Int) (n : Int) (by omega) (Int.le_refl _) (by rw [hs]; simp; omega) (by rw [hb]; omega) (by omega)
  rw [this, hs]
  simp only [Int.toNat_natCast, Nat.mul_one]
  congr 3
  congr 1
  apply Array.ext
  · simp [madeCells, Value.cells]
  · intro j h1 h2
    simp [madeCells, Value.cells, Nat.mod_one]
theorem He.meas2 {k n : Nat} (hlt : k < n) : n - ((k : Int) + 1).toNat < n - ((k : Int)).toNat := by omega
theorem He.w64 {k n : Nat} (hlt : k < n) (hn : n ≤ 1000000000) : wrap64 ((k : Int) + 1) = (k : Int) + 1 := by unfold wrap64; omega
/-- What has come up in the drawn region, and what it has left. -/
def He.Inv10 (fr : (Nat → Value) → Act) (val : Nat → Value) (W1 W' : World) (listed : Array Bool) (a : Act) (w : World) : Prop :=
  ∃ t : Nat → Value, a = fr t ∧ (∀ j, j < 13 → listed.getD j false = true → t j = val j) ∧ (listed.getD 13 false = true → ∀ j, j < 13 → listed.getD j false = true) ∧ w = if listed.getD 13 false = true then W' else W1
theorem He.Inv10.next {fr : (Nat → Value) → Act} {val : Nat → Value} {W1 W' : World} {listed : Array Bool} {t : Nat → Value} (i : Nat) (u : Value) (hi : i < 13) (ht : ∀ j, j < 13 → listed.getD j false = true → t j = val j) (hn13 : listed.getD 13 false = false) (hv : u = val i) :
    He.Inv10 fr val W1 W' (listed.setIfInBounds i true) (fr fun j => if j = i then u else t j) W1 := by
  refine ⟨_, rfl, fun j hj hx => ?_, fun hx => ?_, ?_⟩
  · by_cases e : j = i
    · subst e; rw [if_pos rfl]; exact hv
    · rw [if_neg e]; rw [Rg.getD_set, if_neg (fun q => e q.1.symm)] at hx; exact ht j hj hx
  · rw [Rg.getD_set, if_neg (by omega), hn13] at hx; cases hx
  · rw [if_neg]
    rw [Rg.getD_set, if_neg (by omega), hn13]
    decide
/-- One edge; one node; all that come. -/
def He.one (v : Int) (o : List Int) (w : Int) : List Int := o.set v.toNat (if o[v.toNat]?.getD 0 < wrap64 (o[w.toNat]?.getD 0 + 1) then wrap64 (o[w.toNat]?.getD 0 + 1) else o[v.toNat]?.getD 0)
def He.step (G : List (List Int)) (o : List Int) (v : Int) : List Int := (G[v.toNat]?.getD []).foldl (He.one v) o
def He.hts (G : List (List Int)) (vs : List Int) : List Int := vs.foldl (He.step G) (List.replicate G.length 0)
theorem He.one_len (v : Int) (o : List Int) (w : Int) : (He.one v o w).length = o.length := by simp [He.one]
theorem He.ones_len (v : Int) : ∀ (l : List Int) (o : List Int), (l.foldl (He.one v) o).length = o.length
  | [], _ => rfl
  | w :: l, o => by rw [List.foldl_cons, He.ones_len v l, He.one_len]
theorem He.step_len (G : List (List Int)) (o : List Int) (v : Int) : (He.step G o v).length = o.length := He.ones_len _ _ _
theorem He.steps_len (G : List (List Int)) : ∀ (vs : List Int) (o : List Int), (vs.foldl (He.step G) o).length = o.length
  | [], _ => rfl
  | v :: vs, o => by rw [List.foldl_cons, He.steps_len G vs, He.step_len]
theorem He.hts_len (G : List (List Int)) (vs : List Int) : (He.hts G vs).length = G.length := by rw [He.hts, He.steps_len, List.length_replicate]
/-- A block of cells. -/
def He.Blk (W : World) (k : Nat) (cs : List Value) (t : TypeId) : Prop := W.heap[k]? = some (.cells cs.toArray t (0, 0))
theorem He.Blk.kept {W W' : World} {row : Option Nat} {k : Nat} {cs : List Value} {t : TypeId} (h : He.Blk W k cs t) (hg : W.grownBy W' row) (hne : some k ≠ row) : He.Blk W' k cs t := (hg.block k (Array.getElem?_eq_some_iff.1 h).1 hne).trans h
theorem He.blk_own {β : Type} (k : Nat) (t : TypeId) (f : β → List Value) : Own (fun s W => He.Blk W k (f s) t) := fun s X Y row hs hg hrow =>
  hs.kept hg (fun e' => by obtain ⟨o, ho, hc⟩ := hrow k e'.symm; rw [show X.heap[k]? = _ from hs] at ho; cases ho; cases hc)
theorem He.Blk.cell {W : World} {k : Nat} {cs : List Value} {t : TypeId} (h : He.Blk W k cs t) (j : Nat) : W.cell? ⟨k, j, none⟩ = cs[j]? := by
  simp only [World.cell?, show W.heap[k]? = _ from h, Option.isSome_none, Bool.false_eq_true, if_false]
  simp
theorem He.Blk.frozen {W : World} {k : Nat} {cs : List Value} {t : TypeId} (h : He.Blk W k cs t) (j : Nat) : W.frozen? ⟨k, j, none⟩ = false := by simp [World.frozen?, show W.heap[k]? = _ from h]
set_option maxRecDepth 100000 in
set_option maxHeartbeats 4000000 in
theorem He.heights_in {p : Int → Prop} (F : Fence) (n : Nat) (hF : F.fn 40) (h39 : F.fn 39) (h50 : F.fn 50) (h57 : F.fn 57) (hro : F.round = none) (hn : 3 ≤ n) (w : World) (base : Option Addr) (cap : Nat) (G : List (List Int)) (L : List Int) (hGn : G.length ≤ 1000) (hp : ∀ i : Nat, p (L[i]?.getD 0)) (hLr : L.length * 8 ≤ 140737488351232) (hG : He.Rows w base G) (hpv : L.length ≠ 0 → ∀ v, p v → 0 ≤ v ∧ v < (G.length : Int)) (hRl : ∀ i : Nat, (G[i]?.getD []).length ≤ 1000000000) (hGr : ∀ i j : Nat, i < G.length → j < (G[i]?.getD []).length → 0 ≤ (G[i]?.getD [])[j]?.getD 0 ∧ (G[i]?.getD [])[j]?.getD 0 < (G.length : Int))
    (hord : ∀ W, Below w.heap.size w W → CallsIn F (n - 1) Try.prog 39 #[.slice base G.length cap] W fun e W' => ∃ b2 c2, e = .returned (.slice b2 L.length c2) ∧ Below W.heap.size W W' ∧ Bk.IntsAt W' (.slice b2 L.length c2) L) :
    CallsIn F n Try.prog 40 #[.slice base G.length cap] w fun e W' => Below w.heap.size w W' ∧ (L.length < G.length → e = .returned (.tuple #[.slice none 0 0, .bool false])) ∧ (¬ L.length < G.length → ∃ bo, w.heap.size ≤ bo ∧ e = .returned (.tuple #[.slice (some ⟨bo, 0, none⟩) G.length G.length, .bool true]) ∧ He.Blk W' bo ((He.hts G ((Bk.upto L hp L.length).map fun x => x.1.2)).map (Value.int .i64)) 3) := by
  have h1 : 1 ≤ n := by omega
  have hmk := He.mk G.length hGn
  refine callsIn_of_wp_marks Try.func40 rfl hF ?_ hro
  simp only [Try.ntmps40, List.size_toArray, List.length_cons, List.length_nil, Nat.reduceAdd, Nat.reduceSub, Array.replicate_succ, Array.replicate_zero, List.push_toArray, List.append_toArray, List.nil_append, List.cons_append]
  have hB1 : Below w.heap.size w (w.alloc (.cells #[.slice base G.length cap] 22)) := (Below.refl _ w).alloc (Nat.le_refl _) _
  have bG := Boxed.new w 22 (.slice base G.length cap)
  gi_wp2_with (first | (gi_at_call 50; refine (Bk.back_in F (n - 1) h50 hro _ _ _ _).mono ?_; rintro e w' ⟨rfl, rfl⟩) | (gi_at_call 39; refine (hord _ hB1).mono ?_; rintro e W2 ⟨b2, c2, rfl, hB2, hL⟩; have hcG : W2.cell? ⟨w.heap.size, 0, none⟩ = some (.slice base G.length cap) := ((hB2.cell (p := ⟨w.heap.size, 0, none⟩) (by simp)).trans bG.cell)))
  · rename_i hlt
    refine ⟨.tuple #[.slice none 0 0, .bool false], ?_, hB1.trans (hB2.mono (by simp)), fun _ => rfl, fun h => absurd hlt h⟩
    simp [results, Try.f40, go_sem]
  have hW2 : w.heap.size + 1 ≤ W2.heap.size := by have := hB2.size; simpa using this
  have bO := Boxed.new (W2.alloc (.cells (Array.replicate G.length (Value.int .i64 0)) 3)) 31 (.slice (some ⟨W2.heap.size, 0, none⟩) G.length G.length)
  have bN := Boxed.new ((W2.alloc (.cells (Array.replicate G.length (Value.int .i64 0)) 3)).alloc (.cells #[.slice (some ⟨W2.heap.size, 0, none⟩) G.length G.length] 31)) 31 (.slice b2 L.length c2)
  have bR : He.Blk (W2.alloc (.cells (Array.replicate G.length (Value.int .i64 0)) 3)) W2.heap.size ((He.hts G []).map (Value.int .i64)) 3 := by
    have := World.alloc_heap_new W2 (.cells (Array.replicate G.length (Value.int .i64 0)) 3)
    unfold He.Blk
    rw [this]
    congr 2
    simp [He.hts]
  simp only [World.size_alloc] at bO bN
  have hB3 : Below W2.heap.size W2 (((W2.alloc (.cells (Array.replicate G.length (Value.int .i64 0)) 3)).alloc (.cells #[.slice (some ⟨W2.heap.size, 0, none⟩) G.length G.length] 31)).alloc (.cells #[.slice b2 L.length c2] 31)) := (((Below.refl _ W2).alloc (Nat.le_refl _) _).alloc (by simp) _).alloc (by simp; omega) _
  obtain ⟨W3, hW3⟩ : ∃ W3, W3 = ((W2.alloc (.cells (Array.replicate G.length (Value.int .i64 0)) 3)).alloc (.cells #[.slice (some ⟨W2.heap.size, 0, none⟩) G.length G.length] 31)).alloc (.cells #[.slice b2 L.length c2] 31) := ⟨_, rfl⟩
  have bO3 : Boxed W3 (W2.heap.size + 1) 31 (.slice (some ⟨W2.heap.size, 0, none⟩) G.length G.length) := by rw [hW3]; exact bO.alloc _
  have bR3 : He.Blk W3 W2.heap.size ((He.hts G []).map (Value.int .i64)) 3 := by rw [hW3]; exact (bR.kept (World.grownBy_alloc _ _ none) (by simp)).kept (World.grownBy_alloc _ _ none) (by simp)
  have hs3 : W3.heap.size = W2.heap.size + 3 := by rw [hW3]; simp
  rw [← hW3] at bN hB3 ⊢
  clear hW3
  have hBw : Below w.heap.size w W3 := hB1.trans ((hB2.mono (by simp)).trans (hB3.mono (by omega)))
  refine wpIn_rangeFunc_ownF hro h1 (gf := 57) (lb := #[.pointer (some ⟨W2.heap.size + 1 + 1, 0, none⟩)]) rfl h57 (enters_of Try.func57 (by kernel_rfl) rfl)
    (Bk.back_stops F (n - 1) h57 hro (by omega) (W2.heap.size + 1 + 1) (W2.heap.size + 3) W2.heap.size _ L hp hLr W3 (by omega) (by omega) (by omega) bN.cell ⟨W2, by omega, Nat.le_refl _, hB3, hL⟩) Bk.But.trans (fun W l x y hl _ _ _ => Bk.But.put W l x y (by omega)) (Below.refl _ _) (fun _ => rfl)
    (fun pre W => (He.Blk W W2.heap.size ((He.hts G (pre.map fun x => x.1.2)).map (Value.int .i64)) 3 ∧ Boxed W (W2.heap.size + 1) 31 (.slice (some ⟨W2.heap.size, 0, none⟩) G.length G.length) ∧ Boxed W w.heap.size 22 (.slice base G.length cap)) ∧ Below w.heap.size w W)
    (fun _ _ _ => False)
    (OwnFrom.and (Own.from (fun s A B row hs hg hr => ⟨He.blk_own _ _ (fun pre : List {x : Int × Int // p x.2} => (He.hts G (pre.map fun x => x.1.2)).map (Value.int .i64)) s A B row hs.1 hg hr, boxed_own _ _ (fun _ : List {x : Int × Int // p x.2} => _) s A B row hs.2.1 hg hr, boxed_own _ _ (fun _ : List {x : Int × Int // p x.2} => _) s A B row hs.2.2 hg hr⟩) _) (ownFrom_below (Nat.le_refl _) (by omega)))
    (fun _ _ _ _ _ hs _ _ => hs)
    ⟨⟨bR3, bO3, (hB3.block _ (by omega)).trans ((hB2.block _ (by simp)).trans bG)⟩, hBw⟩
    (fun x => { tmps := #[.slice base G.length cap, .pointer (some ⟨w.heap.size, 0, none⟩), .slice none 0 0, .bool false, .slice b2 L.length c2, .pointer (some ⟨W2.heap.size + 1, 0, none⟩), undef, .int .i64 x.1.2, undef, undef, .slice base G.length cap, .slice b2 L.length c2, .slice b2 L.length c2, .int .i64 L.length, .slice base G.length cap, .int .i64 G.length, .bool false, .slice base G.length cap, .int .i64 G.length, .slice (some ⟨W2.heap.size, 0, none⟩) G.length G.length, .slice b2 L.length c2, .func (.func 57) #[] #[.pointer (some ⟨W2.heap.size + 1 + 1, 0, none⟩)], .int .i64 x.1.1, .int .i64 x.1.2, undef, undef, undef, undef, undef, undef, undef, undef, undef, undef, undef, undef, undef, undef, undef, undef, undef, undef, undef, undef, undef, undef, undef, undef], defers := [] }) ?assign ?body ?done ?stop
  case assign =>
    intro l x W K hK
    gi_wp2
    exact hK
  case body =>
    rintro l pre x W ⟨⟨hR, hO, hBx⟩, hBW⟩ hlt
    obtain ⟨hv0, hv1⟩ := hpv (by omega) x.1.2 x.2
    have hfin : He.hts G ((pre ++ [x]).map fun x => x.1.2) = He.step G (He.hts G (pre.map fun x => x.1.2)) x.1.2 := by simp [He.hts]
    refine wpIn_mono (Q := fun e a W' => e = .normal ∧ KeepsOthers W W' ∧ Bk.But (W2.heap.size + 3) W2.heap.size W W' ∧ He.Blk W' W2.heap.size ((He.step G (He.hts G (pre.map fun x => x.1.2)) x.1.2).map (Value.int .i64)) 3 ∧ Boxed W' (W2.heap.size + 1) 31 (.slice (some ⟨W2.heap.size, 0, none⟩) G.length G.length) ∧ Boxed W' w.heap.size 22 (.slice base G.length cap) ∧ Below w.heap.size w W') ?_ ?fin
    case fin =>
      rintro e a W' ⟨rfl, h1, h2, h3, h4, h5, h6⟩
      refine ⟨h1, h2, ⟨?_, h4, h5⟩, h6⟩
      show He.Blk _ _ (List.map _ (He.hts G ((pre ++ [x]).map fun x => x.1.2))) 3
      rw [hfin]
      exact h3
    clear hfin
    have hol : (He.hts G (pre.map fun x => x.1.2)).length = G.length := He.hts_len _ _
    generalize He.hts G (pre.map fun x => x.1.2) = o0 at hR hol ⊢
    obtain ⟨v, hv⟩ : ∃ v : Nat, x.1.2 = v := ⟨x.1.2.toNat, by omega⟩
    rw [hv] at hv0 hv1 ⊢
    clear hv
    have hvn : v < G.length := by omega
    obtain ⟨b, off, rfl, hb, hrows⟩ := hG (fun e => by rw [e] at hvn; simp at hvn)
    obtain ⟨rb, rc, hrow, hels⟩ := hrows v hvn
    have hrowW : W.cell? ⟨b, off + v, none⟩ = some (.slice rb (G[v]?.getD []).length rc) := (hBW.cell (p := ⟨b, off + v, none⟩) hb).trans hrow
    have hcG2 := hBx.cell
    have hstep : He.step G o0 (v : Int) = (G[v]?.getD []).foldl (He.one (v : Int)) o0 := by simp [He.step]
    rw [hstep]
    clear hstep
    have hGr' := hGr v
    have hRl' := hRl v
    generalize G[v]?.getD [] = row at hrowW hels hGr' hRl' ⊢
    gi_wp2
    gi_loopw [29] (fun j wr => ∃ k : Nat, k ≤ row.length ∧ j = .int .i64 (k : Int) ∧ He.Blk wr W2.heap.size (((row.take k).foldl (He.one (v : Int)) o0).map (Value.int .i64)) 3 ∧ Boxed wr (W2.heap.size + 1) 31 (.slice (some ⟨W2.heap.size, 0, none⟩) G.length G.length) ∧ Boxed wr w.heap.size 22 (.slice (some ⟨b, off, none⟩) G.length cap) ∧ KeepsOthers W wr ∧ Bk.But (W2.heap.size + 3) W2.heap.size W wr ∧ Below w.heap.size w wr)
      (fun j _ => row.length - (intOf j).toNat)
    case atStart => exact ⟨0, Nat.zero_le _, rfl, by simpa using hR, hO, hBx, KeepsOthers.refl _, Bk.But.refl _ _ _, hBW⟩
    case round =>
      obtain ⟨k, hk, rfl, hRk, hOk, hBk, hKk, hTk, hWk⟩ := hrel
      by_cases hlt : k < row.length
      · obtain ⟨c, o, rfl, hc, hcell⟩ := hels (fun e => by rw [e] at hlt; simp at hlt)
        obtain ⟨hu0, hu1⟩ := hGr' k hvn hlt
        have hel : wr.cell? ⟨c, o + k, none⟩ = some (.int .i64 (row[k]?.getD 0)) := (hWk.cell (p := ⟨c, o + k, none⟩) hc).trans (hcell k hlt)
        have htk : row.take (k + 1) = row.take k ++ [row[k]?.getD 0] := by rw [List.take_succ_eq_append_getElem hlt]; simp [hlt]
        have hnext : ((row.take (k + 1)).foldl (He.one (v : Int)) o0) = He.one (v : Int) ((row.take k).foldl (He.one (v : Int)) o0) (row[k]?.getD 0) := by rw [htk, List.foldl_append]; rfl
        have hql : ((row.take k).foldl (He.one (v : Int)) o0).length = G.length := by rw [He.ones_len, hol]
        generalize (row.take k).foldl (He.one (v : Int)) o0 = q at hRk hnext hql
        generalize row[k]?.getD 0 = u at hu0 hu1 hel hnext
        clear htk
        obtain ⟨m, rfl⟩ : ∃ m : Nat, u = m := ⟨u.toNat, by omega⟩
        have hmn : m < G.length := by omega
        have hqv : wr.cell? ⟨W2.heap.size, v, none⟩ = some (.int .i64 (q[v]?.getD 0)) := by rw [hRk.cell]; simp [hql, hvn]
        have hqm : wr.cell? ⟨W2.heap.size, m, none⟩ = some (.int .i64 (q[m]?.getD 0)) := by rw [hRk.cell]; simp [hql, hmn]
        have hqf := hRk.frozen v
        have hOc := hOk.cell
        obtain ⟨qv, hqv'⟩ : ∃ qv, q[v]?.getD 0 = qv := ⟨_, rfl⟩
        obtain ⟨qm, hqm'⟩ : ∃ qm, q[m]?.getD 0 = qm := ⟨_, rfl⟩
        rw [hqv'] at hqv
        rw [hqm'] at hqm
        gi_wp2
        have hmx2 : (if qv < wrap64 (qm + 1) then wrap64 (qm + 1) else qv) = max qv (wrap64 (qm + 1)) := by rw [Int.max_def]; split <;> split <;> omega
        have hmx : Try.prog.follows .mixedOrders = true := by kernel_rfl
        obtain ⟨val, hval⟩ : ∃ val : Nat → Value, val = fun j => (#[.slice (some ⟨W2.heap.size, 0, none⟩) G.length G.length, .int .i64 v, .slice (some ⟨W2.heap.size, 0, none⟩) G.length G.length, .int .i64 v, .pointer (some ⟨W2.heap.size, v, none⟩), .int .i64 qv, .slice (some ⟨W2.heap.size, 0, none⟩) G.length G.length, .int .i64 m, .pointer (some ⟨W2.heap.size, m, none⟩), .int .i64 qm, .int .i64 (wrap64 (qm + 1)), .int .i64 (if qv < wrap64 (qm + 1) then wrap64 (qm + 1) else qv), .pointer (some ⟨W2.heap.size, v, none⟩)] : Array Value).getD j undef := ⟨_, rfl⟩
        refine wpIn_region_any hmx (Rg.any_inv (He.Inv10 (fun t => { tmps := #[.slice (some ⟨b, off, none⟩) G.length cap, .pointer (some ⟨w.heap.size, 0, none⟩), .slice none 0 0, .bool false, .slice b2 L.length c2, .pointer (some ⟨W2.heap.size + 1, 0, none⟩), undef, .int .i64 v, undef, .int .i64 m, .slice (some ⟨b, off, none⟩) G.length cap, .slice b2 L.length c2, .slice b2 L.length c2, .int .i64 L.length, .slice (some ⟨b, off, none⟩) G.length cap, .int .i64 G.length, .bool false, .slice (some ⟨b, off, none⟩) G.length cap, .int .i64 G.length, .slice (some ⟨W2.heap.size, 0, none⟩) G.length G.length, .slice b2 L.length c2, .func (.func 57) #[] #[.pointer (some ⟨W2.heap.size + 1 + 1, 0, none⟩)], .int .i64 x.val.1, .int .i64 v, .slice (some ⟨b, off, none⟩) G.length cap, .int .i64 v, .pointer (some ⟨b, off + v, none⟩), .slice (some ⟨c, o, none⟩) row.length rc, .int .i64 row.length, .int .i64 k, .bool true, .pointer (some ⟨c, o + k, none⟩), .int .i64 m, t 0, t 1, t 2, t 3, t 4, t 5, t 6, t 7, t 8, t 9, t 10, t 11, t 12, u46, undef], defers := [] }) val wr.drew ((wr.drew).setCell ⟨W2.heap.size, v, none⟩ (.int .i64 (if qv < wrap64 (qm + 1) then wrap64 (qm + 1) else qv)))) ?hlt ?hstep ?hfin14 _ _ _ _ rfl ⟨fun j => (#[u33, u34, u35, u36, u37, u38, u39, u40, u41, u42, u43, u44, u45] : Array Value).getD j undef, rfl, fun j hj h => by (simp only [Array.getD_eq_getD_getElem?, Array.getElem?_replicate] at h; split at h <;> cases h), fun h => by simp [Array.getD_eq_getD_getElem?, Array.getElem?_replicate] at h, rfl⟩ (by decide))
        case hlt =>
          exact Rg.hlt_of (by kernel_rfl)
        case hstep =>
          rintro listed a wx hs ⟨t, rfl, ht, hI13, hwx⟩ i oo ho h1 h2
          have hN : ∀ j, listed.getD j true = false → listed.getD j false = false := fun j h => by
            rw [Array.getD_eq_getD_getElem?] at h ⊢
            cases hx : listed[j]? with
            | none => rw [hx] at h; cases h
            | some b => rw [hx] at h; exact h
          have hi14 : i < 14 := (Array.getElem?_eq_some_iff.1 ho).1
          obtain rfl | rfl | rfl | rfl | rfl | rfl | rfl | rfl | rfl | rfl | rfl | rfl | rfl | rfl : i = 0 ∨ i = 1 ∨ i = 2 ∨ i = 3 ∨ i = 4 ∨ i = 5 ∨ i = 6 ∨ i = 7 ∨ i = 8 ∨ i = 9 ∨ i = 10 ∨ i = 11 ∨ i = 12 ∨ i = 13 := by omega
          · have ho' := ho
            simp only [List.getElem?_toArray, List.getElem?_cons_zero, List.getElem?_cons_succ, Option.some.injEq] at ho'
            subst ho'
            have hn13 : listed.getD 13 false = false := by
              cases h13 : listed.getD 13 false with
              | false => rfl
              | true => exact absurd (hI13 h13 0 (by decide)) (by rw [hN 0 h1]; decide)
            obtain rfl : wx = wr.drew := by rw [hwx, if_neg (by rw [hn13]; decide)]
            have hnext := He.Inv10.next (fr := fun t => { tmps := #[.slice (some ⟨b, off, none⟩) G.length cap, .pointer (some ⟨w.heap.size, 0, none⟩), .slice none 0 0, .bool false, .slice b2 L.length c2, .pointer (some ⟨W2.heap.size + 1, 0, none⟩), undef, .int .i64 v, undef, .int .i64 m, .slice (some ⟨b, off, none⟩) G.length cap, .slice b2 L.length c2, .slice b2 L.length c2, .int .i64 L.length, .slice (some ⟨b, off, none⟩) G.length cap, .int .i64 G.length, .bool false, .slice (some ⟨b, off, none⟩) G.length cap, .int .i64 G.length, .slice (some ⟨W2.heap.size, 0, none⟩) G.length G.length, .slice b2 L.length c2, .func (.func 57) #[] #[.pointer (some ⟨W2.heap.size + 1 + 1, 0, none⟩)], .int .i64 x.val.1, .int .i64 v, .slice (some ⟨b, off, none⟩) G.length cap, .int .i64 v, .pointer (some ⟨b, off + v, none⟩), .slice (some ⟨c, o, none⟩) row.length rc, .int .i64 row.length, .int .i64 k, .bool true, .pointer (some ⟨c, o + k, none⟩), .int .i64 m, t 0, t 1, t 2, t 3, t 4, t 5, t 6, t 7, t 8, t 9, t 10, t 11, t 12, u46, undef], defers := [] }) (W1 := wr.drew) (W' := (wr.drew).setCell ⟨W2.heap.size, v, none⟩ (.int .i64 (if qv < wrap64 (qm + 1) then wrap64 (qm + 1) else qv))) 0 (.slice (some ⟨W2.heap.size, 0, none⟩) G.length G.length) (by decide) ht hn13 (by rw [hval]; rfl)
            refine Rg.want ho rfl (fun K' hK => ?_)
            replace hK := hK _ _ hnext
            clear hnext ht h2 hI13 hs h1 hN hn13 hi14 hwx hval ho
            dsimp only
            first | gi_big_move | gi_big_op
            first | exact hK | (rw [hmx2] at hK; exact hK)
          · have ho' := ho
            simp only [List.getElem?_toArray, List.getElem?_cons_zero, List.getElem?_cons_succ, Option.some.injEq] at ho'
            subst ho'
            have hn13 : listed.getD 13 false = false := by
              cases h13 : listed.getD 13 false with
              | false => rfl
              | true => exact absurd (hI13 h13 1 (by decide)) (by rw [hN 1 h1]; decide)
            obtain rfl : wx = wr.drew := by rw [hwx, if_neg (by rw [hn13]; decide)]
            have hnext := He.Inv10.next (fr := fun t => { tmps := #[.slice (some ⟨b, off, none⟩) G.length cap, .pointer (some ⟨w.heap.size, 0, none⟩), .slice none 0 0, .bool false, .slice b2 L.length c2, .pointer (some ⟨W2.heap.size + 1, 0, none⟩), undef, .int .i64 v, undef, .int .i64 m, .slice (some ⟨b, off, none⟩) G.length cap, .slice b2 L.length c2, .slice b2 L.length c2, .int .i64 L.length, .slice (some ⟨b, off, none⟩) G.length cap, .int .i64 G.length, .bool false, .slice (some ⟨b, off, none⟩) G.length cap, .int .i64 G.length, .slice (some ⟨W2.heap.size, 0, none⟩) G.length G.length, .slice b2 L.length c2, .func (.func 57) #[] #[.pointer (some ⟨W2.heap.size + 1 + 1, 0, none⟩)], .int .i64 x.val.1, .int .i64 v, .slice (some ⟨b, off, none⟩) G.length cap, .int .i64 v, .pointer (some ⟨b, off + v, none⟩), .slice (some ⟨c, o, none⟩) row.length rc, .int .i64 row.length, .int .i64 k, .bool true, .pointer (some ⟨c, o + k, none⟩), .int .i64 m, t 0, t 1, t 2, t 3, t 4, t 5, t 6, t 7, t 8, t 9, t 10, t 11, t 12, u46, undef], defers := [] }) (W1 := wr.drew) (W' := (wr.drew).setCell ⟨W2.heap.size, v, none⟩ (.int .i64 (if qv < wrap64 (qm + 1) then wrap64 (qm + 1) else qv))) 1 (.int .i64 v) (by decide) ht hn13 (by rw [hval]; rfl)
            refine Rg.want ho rfl (fun K' hK => ?_)
            replace hK := hK _ _ hnext
            clear hnext ht h2 hI13 hs h1 hN hn13 hi14 hwx hval ho
            dsimp only
            first | gi_big_move | gi_big_op
            first | exact hK | (rw [hmx2] at hK; exact hK)
          · have ho' := ho
            simp only [List.getElem?_toArray, List.getElem?_cons_zero, List.getElem?_cons_succ, Option.some.injEq] at ho'
            subst ho'
            have hn13 : listed.getD 13 false = false := by
              cases h13 : listed.getD 13 false with
              | false => rfl
              | true => exact absurd (hI13 h13 2 (by decide)) (by rw [hN 2 h1]; decide)
            obtain rfl : wx = wr.drew := by rw [hwx, if_neg (by rw [hn13]; decide)]
            have hnext := He.Inv10.next (fr := fun t => { tmps := #[.slice (some ⟨b, off, none⟩) G.length cap, .pointer (some ⟨w.heap.size, 0, none⟩), .slice none 0 0, .bool false, .slice b2 L.length c2, .pointer (some ⟨W2.heap.size + 1, 0, none⟩), undef, .int .i64 v, undef, .int .i64 m, .slice (some ⟨b, off, none⟩) G.length cap, .slice b2 L.length c2, .slice b2 L.length c2, .int .i64 L.length, .slice (some ⟨b, off, none⟩) G.length cap, .int .i64 G.length, .bool false, .slice (some ⟨b, off, none⟩) G.length cap, .int .i64 G.length, .slice (some ⟨W2.heap.size, 0, none⟩) G.length G.length, .slice b2 L.length c2, .func (.func 57) #[] #[.pointer (some ⟨W2.heap.size + 1 + 1, 0, none⟩)], .int .i64 x.val.1, .int .i64 v, .slice (some ⟨b, off, none⟩) G.length cap, .int .i64 v, .pointer (some ⟨b, off + v, none⟩), .slice (some ⟨c, o, none⟩) row.length rc, .int .i64 row.length, .int .i64 k, .bool true, .pointer (some ⟨c, o + k, none⟩), .int .i64 m, t 0, t 1, t 2, t 3, t 4, t 5, t 6, t 7, t 8, t 9, t 10, t 11, t 12, u46, undef], defers := [] }) (W1 := wr.drew) (W' := (wr.drew).setCell ⟨W2.heap.size, v, none⟩ (.int .i64 (if qv < wrap64 (qm + 1) then wrap64 (qm + 1) else qv))) 2 (.slice (some ⟨W2.heap.size, 0, none⟩) G.length G.length) (by decide) ht hn13 (by rw [hval]; rfl)
            refine Rg.want ho rfl (fun K' hK => ?_)
            replace hK := hK _ _ hnext
            clear hnext ht h2 hI13 hs h1 hN hn13 hi14 hwx hval ho
            dsimp only
            first | gi_big_move | gi_big_op
            first | exact hK | (rw [hmx2] at hK; exact hK)
          · have ho' := ho
            simp only [List.getElem?_toArray, List.getElem?_cons_zero, List.getElem?_cons_succ, Option.some.injEq] at ho'
            subst ho'
            have hn13 : listed.getD 13 false = false := by
              cases h13 : listed.getD 13 false with
              | false => rfl
              | true => exact absurd (hI13 h13 3 (by decide)) (by rw [hN 3 h1]; decide)
            obtain rfl : wx = wr.drew := by rw [hwx, if_neg (by rw [hn13]; decide)]
            have hnext := He.Inv10.next (fr := fun t => { tmps := #[.slice (some ⟨b, off, none⟩) G.length cap, .pointer (some ⟨w.heap.size, 0, none⟩), .slice none 0 0, .bool false, .slice b2 L.length c2, .pointer (some ⟨W2.heap.size + 1, 0, none⟩), undef, .int .i64 v, undef, .int .i64 m, .slice (some ⟨b, off, none⟩) G.length cap, .slice b2 L.length c2, .slice b2 L.length c2, .int .i64 L.length, .slice (some ⟨b, off, none⟩) G.length cap, .int .i64 G.length, .bool false, .slice (some ⟨b, off, none⟩) G.length cap, .int .i64 G.length, .slice (some ⟨W2.heap.size, 0, none⟩) G.length G.length, .slice b2 L.length c2, .func (.func 57) #[] #[.pointer (some ⟨W2.heap.size + 1 + 1, 0, none⟩)], .int .i64 x.val.1, .int .i64 v, .slice (some ⟨b, off, none⟩) G.length cap, .int .i64 v, .pointer (some ⟨b, off + v, none⟩), .slice (some ⟨c, o, none⟩) row.length rc, .int .i64 row.length, .int .i64 k, .bool true, .pointer (some ⟨c, o + k, none⟩), .int .i64 m, t 0, t 1, t 2, t 3, t 4, t 5, t 6, t 7, t 8, t 9, t 10, t 11, t 12, u46, undef], defers := [] }) (W1 := wr.drew) (W' := (wr.drew).setCell ⟨W2.heap.size, v, none⟩ (.int .i64 (if qv < wrap64 (qm + 1) then wrap64 (qm + 1) else qv))) 3 (.int .i64 v) (by decide) ht hn13 (by rw [hval]; rfl)
            refine Rg.want ho rfl (fun K' hK => ?_)
            replace hK := hK _ _ hnext
            clear hnext ht h2 hI13 hs h1 hN hn13 hi14 hwx hval ho
            dsimp only
            first | gi_big_move | gi_big_op
            first | exact hK | (rw [hmx2] at hK; exact hK)
          · have ho' := ho
            simp only [List.getElem?_toArray, List.getElem?_cons_zero, List.getElem?_cons_succ, Option.some.injEq] at ho'
            subst ho'
            have hn13 : listed.getD 13 false = false := by
              cases h13 : listed.getD 13 false with
              | false => rfl
              | true => exact absurd (hI13 h13 4 (by decide)) (by rw [hN 4 h1]; decide)
            obtain rfl : wx = wr.drew := by rw [hwx, if_neg (by rw [hn13]; decide)]
            have p2 : t 2 = .slice (some ⟨W2.heap.size, 0, none⟩) G.length G.length := by rw [ht 2 (by decide) (h2 ⟨2, .data⟩ (by simp) rfl), hval]; rfl
            have p3 : t 3 = .int .i64 v := by rw [ht 3 (by decide) (h2 ⟨3, .data⟩ (by simp) rfl), hval]; rfl
            have hnext := He.Inv10.next (fr := fun t => { tmps := #[.slice (some ⟨b, off, none⟩) G.length cap, .pointer (some ⟨w.heap.size, 0, none⟩), .slice none 0 0, .bool false, .slice b2 L.length c2, .pointer (some ⟨W2.heap.size + 1, 0, none⟩), undef, .int .i64 v, undef, .int .i64 m, .slice (some ⟨b, off, none⟩) G.length cap, .slice b2 L.length c2, .slice b2 L.length c2, .int .i64 L.length, .slice (some ⟨b, off, none⟩) G.length cap, .int .i64 G.length, .bool false, .slice (some ⟨b, off, none⟩) G.length cap, .int .i64 G.length, .slice (some ⟨W2.heap.size, 0, none⟩) G.length G.length, .slice b2 L.length c2, .func (.func 57) #[] #[.pointer (some ⟨W2.heap.size + 1 + 1, 0, none⟩)], .int .i64 x.val.1, .int .i64 v, .slice (some ⟨b, off, none⟩) G.length cap, .int .i64 v, .pointer (some ⟨b, off + v, none⟩), .slice (some ⟨c, o, none⟩) row.length rc, .int .i64 row.length, .int .i64 k, .bool true, .pointer (some ⟨c, o + k, none⟩), .int .i64 m, t 0, t 1, t 2, t 3, t 4, t 5, t 6, t 7, t 8, t 9, t 10, t 11, t 12, u46, undef], defers := [] }) (W1 := wr.drew) (W' := (wr.drew).setCell ⟨W2.heap.size, v, none⟩ (.int .i64 (if qv < wrap64 (qm + 1) then wrap64 (qm + 1) else qv))) 4 (.pointer (some ⟨W2.heap.size, v, none⟩)) (by decide) ht hn13 (by rw [hval]; rfl)
            refine Rg.want ho rfl (fun K' hK => ?_)
            replace hK := hK _ _ hnext
            clear hnext ht h2 hI13 hs h1 hN hn13 hi14 hwx hval ho
            dsimp only
            first | gi_big_move | gi_big_op
            first | exact hK | (rw [hmx2] at hK; exact hK)
          · have ho' := ho
            simp only [List.getElem?_toArray, List.getElem?_cons_zero, List.getElem?_cons_succ, Option.some.injEq] at ho'
            subst ho'
            have hn13 : listed.getD 13 false = false := by
              cases h13 : listed.getD 13 false with
              | false => rfl
              | true => exact absurd (hI13 h13 5 (by decide)) (by rw [hN 5 h1]; decide)
            obtain rfl : wx = wr.drew := by rw [hwx, if_neg (by rw [hn13]; decide)]
            have p4 : t 4 = .pointer (some ⟨W2.heap.size, v, none⟩) := by rw [ht 4 (by decide) (h2 ⟨4, .data⟩ (by simp) rfl), hval]; rfl
            have hnext := He.Inv10.next (fr := fun t => { tmps := #[.slice (some ⟨b, off, none⟩) G.length cap, .pointer (some ⟨w.heap.size, 0, none⟩), .slice none 0 0, .bool false, .slice b2 L.length c2, .pointer (some ⟨W2.heap.size + 1, 0, none⟩), undef, .int .i64 v, undef, .int .i64 m, .slice (some ⟨b, off, none⟩) G.length cap, .slice b2 L.length c2, .slice b2 L.length c2, .int .i64 L.length, .slice (some ⟨b, off, none⟩) G.length cap, .int .i64 G.length, .bool false, .slice (some ⟨b, off, none⟩) G.length cap, .int .i64 G.length, .slice (some ⟨W2.heap.size, 0, none⟩) G.length G.length, .slice b2 L.length c2, .func (.func 57) #[] #[.pointer (some ⟨W2.heap.size + 1 + 1, 0, none⟩)], .int .i64 x.val.1, .int .i64 v, .slice (some ⟨b, off, none⟩) G.length cap, .int .i64 v, .pointer (some ⟨b, off + v, none⟩), .slice (some ⟨c, o, none⟩) row.length rc, .int .i64 row.length, .int .i64 k, .bool true, .pointer (some ⟨c, o + k, none⟩), .int .i64 m, t 0, t 1, t 2, t 3, t 4, t 5, t 6, t 7, t 8, t 9, t 10, t 11, t 12, u46, undef], defers := [] }) (W1 := wr.drew) (W' := (wr.drew).setCell ⟨W2.heap.size, v, none⟩ (.int .i64 (if qv < wrap64 (qm + 1) then wrap64 (qm + 1) else qv))) 5 (.int .i64 qv) (by decide) ht hn13 (by rw [hval]; rfl)
            refine Rg.want ho rfl (fun K' hK => ?_)
            replace hK := hK _ _ hnext
            clear hnext ht h2 hI13 hs h1 hN hn13 hi14 hwx hval ho
            dsimp only
            first | gi_big_move | gi_big_op
            first | exact hK | (rw [hmx2] at hK; exact hK)
          · have ho' := ho
            simp only [List.getElem?_toArray, List.getElem?_cons_zero, List.getElem?_cons_succ, Option.some.injEq] at ho'
            subst ho'
            have hn13 : listed.getD 13 false = false := by
              cases h13 : listed.getD 13 false with
              | false => rfl
              | true => exact absurd (hI13 h13 6 (by decide)) (by rw [hN 6 h1]; decide)
            obtain rfl : wx = wr.drew := by rw [hwx, if_neg (by rw [hn13]; decide)]
            have hnext := He.Inv10.next (fr := fun t => { tmps := #[.slice (some ⟨b, off, none⟩) G.length cap, .pointer (some ⟨w.heap.size, 0, none⟩), .slice none 0 0, .bool false, .slice b2 L.length c2, .pointer (some ⟨W2.heap.size + 1, 0, none⟩), undef, .int .i64 v, undef, .int .i64 m, .slice (some ⟨b, off, none⟩) G.length cap, .slice b2 L.length c2, .slice b2 L.length c2, .int .i64 L.length, .slice (some ⟨b, off, none⟩) G.length cap, .int .i64 G.length, .bool false, .slice (some ⟨b, off, none⟩) G.length cap, .int .i64 G.length, .slice (some ⟨W2.heap.size, 0, none⟩) G.length G.length, .slice b2 L.length c2, .func (.func 57) #[] #[.pointer (some ⟨W2.heap.size + 1 + 1, 0, none⟩)], .int .i64 x.val.1, .int .i64 v, .slice (some ⟨b, off, none⟩) G.length cap, .int .i64 v, .pointer (some ⟨b, off + v, none⟩), .slice (some ⟨c, o, none⟩) row.length rc, .int .i64 row.length, .int .i64 k, .bool true, .pointer (some ⟨c, o + k, none⟩), .int .i64 m, t 0, t 1, t 2, t 3, t 4, t 5, t 6, t 7, t 8, t 9, t 10, t 11, t 12, u46, undef], defers := [] }) (W1 := wr.drew) (W' := (wr.drew).setCell ⟨W2.heap.size, v, none⟩ (.int .i64 (if qv < wrap64 (qm + 1) then wrap64 (qm + 1) else qv))) 6 (.slice (some ⟨W2.heap.size, 0, none⟩) G.length G.length) (by decide) ht hn13 (by rw [hval]; rfl)
            refine Rg.want ho rfl (fun K' hK => ?_)
            replace hK := hK _ _ hnext
            clear hnext ht h2 hI13 hs h1 hN hn13 hi14 hwx hval ho
            dsimp only
            first | gi_big_move | gi_big_op
            first | exact hK | (rw [hmx2] at hK; exact hK)
          · have ho' := ho
            simp only [List.getElem?_toArray, List.getElem?_cons_zero, List.getElem?_cons_succ, Option.some.injEq] at ho'
            subst ho'
            have hn13 : listed.getD 13 false = false := by
              cases h13 : listed.getD 13 false with
              | false => rfl
              | true => exact absurd (hI13 h13 7 (by decide)) (by rw [hN 7 h1]; decide)
            obtain rfl : wx = wr.drew := by rw [hwx, if_neg (by rw [hn13]; decide)]
            have hnext := He.Inv10.next (fr := fun t => { tmps := #[.slice (some ⟨b, off, none⟩) G.length cap, .pointer (some ⟨w.heap.size, 0, none⟩), .slice none 0 0, .bool false, .slice b2 L.length c2, .pointer (some ⟨W2.heap.size + 1, 0, none⟩), undef, .int .i64 v, undef, .int .i64 m, .slice (some ⟨b, off, none⟩) G.length cap, .slice b2 L.length c2, .slice b2 L.length c2, .int .i64 L.length, .slice (some ⟨b, off, none⟩) G.length cap, .int .i64 G.length, .bool false, .slice (some ⟨b, off, none⟩) G.length cap, .int .i64 G.length, .slice (some ⟨W2.heap.size, 0, none⟩) G.length G.length, .slice b2 L.length c2, .func (.func 57) #[] #[.pointer (some ⟨W2.heap.size + 1 + 1, 0, none⟩)], .int .i64 x.val.1, .int .i64 v, .slice (some ⟨b, off, none⟩) G.length cap, .int .i64 v, .pointer (some ⟨b, off + v, none⟩), .slice (some ⟨c, o, none⟩) row.length rc, .int .i64 row.length, .int .i64 k, .bool true, .pointer (some ⟨c, o + k, none⟩), .int .i64 m, t 0, t 1, t 2, t 3, t 4, t 5, t 6, t 7, t 8, t 9, t 10, t 11, t 12, u46, undef], defers := [] }) (W1 := wr.drew) (W' := (wr.drew).setCell ⟨W2.heap.size, v, none⟩ (.int .i64 (if qv < wrap64 (qm + 1) then wrap64 (qm + 1) else qv))) 7 (.int .i64 m) (by decide) ht hn13 (by rw [hval]; rfl)
            refine Rg.want ho rfl (fun K' hK => ?_)
            replace hK := hK _ _ hnext
            clear hnext ht h2 hI13 hs h1 hN hn13 hi14 hwx hval ho
            dsimp only
            first | gi_big_move | gi_big_op
            first | exact hK | (rw [hmx2] at hK; exact hK)
          · have ho' := ho
            simp only [List.getElem?_toArray, List.getElem?_cons_zero, List.getElem?_cons_succ, Option.some.injEq] at ho'
            subst ho'
            have hn13 : listed.getD 13 false = false := by
              cases h13 : listed.getD 13 false with
              | false => rfl
              | true => exact absurd (hI13 h13 8 (by decide)) (by rw [hN 8 h1]; decide)
            obtain rfl : wx = wr.drew := by rw [hwx, if_neg (by rw [hn13]; decide)]
            have p6 : t 6 = .slice (some ⟨W2.heap.size, 0, none⟩) G.length G.length := by rw [ht 6 (by decide) (h2 ⟨6, .data⟩ (by simp) rfl), hval]; rfl
            have p7 : t 7 = .int .i64 m := by rw [ht 7 (by decide) (h2 ⟨7, .data⟩ (by simp) rfl), hval]; rfl
            have hnext := He.Inv10.next (fr := fun t => { tmps := #[.slice (some ⟨b, off, none⟩) G.length cap, .pointer (some ⟨w.heap.size, 0, none⟩), .slice none 0 0, .bool false, .slice b2 L.length c2, .pointer (some ⟨W2.heap.size + 1, 0, none⟩), undef, .int .i64 v, undef, .int .i64 m, .slice (some ⟨b, off, none⟩) G.length cap, .slice b2 L.length c2, .slice b2 L.length c2, .int .i64 L.length, .slice (some ⟨b, off, none⟩) G.length cap, .int .i64 G.length, .bool false, .slice (some ⟨b, off, none⟩) G.length cap, .int .i64 G.length, .slice (some ⟨W2.heap.size, 0, none⟩) G.length G.length, .slice b2 L.length c2, .func (.func 57) #[] #[.pointer (some ⟨W2.heap.size + 1 + 1, 0, none⟩)], .int .i64 x.val.1, .int .i64 v, .slice (some ⟨b, off, none⟩) G.length cap, .int .i64 v, .pointer (some ⟨b, off + v, none⟩), .slice (some ⟨c, o, none⟩) row.length rc, .int .i64 row.length, .int .i64 k, .bool true, .pointer (some ⟨c, o + k, none⟩), .int .i64 m, t 0, t 1, t 2, t 3, t 4, t 5, t 6, t 7, t 8, t 9, t 10, t 11, t 12, u46, undef], defers := [] }) (W1 := wr.drew) (W' := (wr.drew).setCell ⟨W2.heap.size, v, none⟩ (.int .i64 (if qv < wrap64 (qm + 1) then wrap64 (qm + 1) else qv))) 8 (.pointer (some ⟨W2.heap.size, m, none⟩)) (by decide) ht hn13 (by rw [hval]; rfl)
            refine Rg.want ho rfl (fun K' hK => ?_)
            replace hK := hK _ _ hnext
            clear hnext ht h2 hI13 hs h1 hN hn13 hi14 hwx hval ho
            dsimp only
            first | gi_big_move | gi_big_op
            first | exact hK | (rw [hmx2] at hK; exact hK)
          · have ho' := ho
            simp only [List.getElem?_toArray, List.getElem?_cons_zero, List.getElem?_cons_succ, Option.some.injEq] at ho'
            subst ho'
            have hn13 : listed.getD 13 false = false := by
              cases h13 : listed.getD 13 false with
              | false => rfl
              | true => exact absurd (hI13 h13 9 (by decide)) (by rw [hN 9 h1]; decide)
            obtain rfl : wx = wr.drew := by rw [hwx, if_neg (by rw [hn13]; decide)]
            have p8 : t 8 = .pointer (some ⟨W2.heap.size, m, none⟩) := by rw [ht 8 (by decide) (h2 ⟨8, .data⟩ (by simp) rfl), hval]; rfl
            have hnext := He.Inv10.next (fr := fun t => { tmps := #[.slice (some ⟨b, off, none⟩) G.length cap, .pointer (some ⟨w.heap.size, 0, none⟩), .slice none 0 0, .bool false, .slice b2 L.length c2, .pointer (some ⟨W2.heap.size + 1, 0, none⟩), undef, .int .i64 v, undef, .int .i64 m, .slice (some ⟨b, off, none⟩) G.length cap, .slice b2 L.length c2, .slice b2 L.length c2, .int .i64 L.length, .slice (some ⟨b, off, none⟩) G.length cap, .int .i64 G.length, .bool false, .slice (some ⟨b, off, none⟩) G.length cap, .int .i64 G.length, .slice (some ⟨W2.heap.size, 0, none⟩) G.length G.length, .slice b2 L.length c2, .func (.func 57) #[] #[.pointer (some ⟨W2.heap.size + 1 + 1, 0, none⟩)], .int .i64 x.val.1, .int .i64 v, .slice (some ⟨b, off, none⟩) G.length cap, .int .i64 v, .pointer (some ⟨b, off + v, none⟩), .slice (some ⟨c, o, none⟩) row.length rc, .int .i64 row.length, .int .i64 k, .bool true, .pointer (some ⟨c, o + k, none⟩), .int .i64 m, t 0, t 1, t 2, t 3, t 4, t 5, t 6, t 7, t 8, t 9, t 10, t 11, t 12, u46, undef], defers := [] }) (W1 := wr.drew) (W' := (wr.drew).setCell ⟨W2.heap.size, v, none⟩ (.int .i64 (if qv < wrap64 (qm + 1) then wrap64 (qm + 1) else qv))) 9 (.int .i64 qm) (by decide) ht hn13 (by rw [hval]; rfl)
            refine Rg.want ho rfl (fun K' hK => ?_)
            replace hK := hK _ _ hnext
            clear hnext ht h2 hI13 hs h1 hN hn13 hi14 hwx hval ho
            dsimp only
            first | gi_big_move | gi_big_op
            first | exact hK | (rw [hmx2] at hK; exact hK)
          · have ho' := ho
            simp only [List.getElem?_toArray, List.getElem?_cons_zero, List.getElem?_cons_succ, Option.some.injEq] at ho'
            subst ho'
            have hn13 : listed.getD 13 false = false := by
              cases h13 : listed.getD 13 false with
              | false => rfl
              | true => exact absurd (hI13 h13 10 (by decide)) (by rw [hN 10 h1]; decide)
            obtain rfl : wx = wr.drew := by rw [hwx, if_neg (by rw [hn13]; decide)]
            have p9 : t 9 = .int .i64 qm := by rw [ht 9 (by decide) (h2 ⟨9, .data⟩ (by simp) rfl), hval]; rfl
            have hnext := He.Inv10.next (fr := fun t => { tmps := #[.slice (some ⟨b, off, none⟩) G.length cap, .pointer (some ⟨w.heap.size, 0, none⟩), .slice none 0 0, .bool false, .slice b2 L.length c2, .pointer (some ⟨W2.heap.size + 1, 0, none⟩), undef, .int .i64 v, undef, .int .i64 m, .slice (some ⟨b, off, none⟩) G.length cap, .slice b2 L.length c2, .slice b2 L.length c2, .int .i64 L.length, .slice (some ⟨b, off, none⟩) G.length cap, .int .i64 G.length, .bool false, .slice (some ⟨b, off, none⟩) G.length cap, .int .i64 G.length, .slice (some ⟨W2.heap.size, 0, none⟩) G.length G.length, .slice b2 L.length c2, .func (.func 57) #[] #[.pointer (some ⟨W2.heap.size + 1 + 1, 0, none⟩)], .int .i64 x.val.1, .int .i64 v, .slice (some ⟨b, off, none⟩) G.length cap, .int .i64 v, .pointer (some ⟨b, off + v, none⟩), .slice (some ⟨c, o, none⟩) row.length rc, .int .i64 row.length, .int .i64 k, .bool true, .pointer (some ⟨c, o + k, none⟩), .int .i64 m, t 0, t 1, t 2, t 3, t 4, t 5, t 6, t 7, t 8, t 9, t 10, t 11, t 12, u46, undef], defers := [] }) (W1 := wr.drew) (W' := (wr.drew).setCell ⟨W2.heap.size, v, none⟩ (.int .i64 (if qv < wrap64 (qm + 1) then wrap64 (qm + 1) else qv))) 10 (.int .i64 (wrap64 (qm + 1))) (by decide) ht hn13 (by rw [hval]; rfl)
            refine Rg.want ho rfl (fun K' hK => ?_)
            replace hK := hK _ _ hnext
            clear hnext ht h2 hI13 hs h1 hN hn13 hi14 hwx hval ho
            dsimp only
            first | gi_big_move | gi_big_op
            first | exact hK | (rw [hmx2] at hK; exact hK)
          · have ho' := ho
            simp only [List.getElem?_toArray, List.getElem?_cons_zero, List.getElem?_cons_succ, Option.some.injEq] at ho'
            subst ho'
            have hn13 : listed.getD 13 false = false := by
              cases h13 : listed.getD 13 false with
              | false => rfl
              | true => exact absurd (hI13 h13 11 (by decide)) (by rw [hN 11 h1]; decide)
            obtain rfl : wx = wr.drew := by rw [hwx, if_neg (by rw [hn13]; decide)]
            have p5 : t 5 = .int .i64 qv := by rw [ht 5 (by decide) (h2 ⟨5, .data⟩ (by simp) rfl), hval]; rfl
            have p10 : t 10 = .int .i64 (wrap64 (qm + 1)) := by rw [ht 10 (by decide) (h2 ⟨10, .data⟩ (by simp) rfl), hval]; rfl
            have hnext := He.Inv10.next (fr := fun t => { tmps := #[.slice (some ⟨b, off, none⟩) G.length cap, .pointer (some ⟨w.heap.size, 0, none⟩), .slice none 0 0, .bool false, .slice b2 L.length c2, .pointer (some ⟨W2.heap.size + 1, 0, none⟩), undef, .int .i64 v, undef, .int .i64 m, .slice (some ⟨b, off, none⟩) G.length cap, .slice b2 L.length c2, .slice b2 L.length c2, .int .i64 L.length, .slice (some ⟨b, off, none⟩) G.length cap, .int .i64 G.length, .bool false, .slice (some ⟨b, off, none⟩) G.length cap, .int .i64 G.length, .slice (some ⟨W2.heap.size, 0, none⟩) G.length G.length, .slice b2 L.length c2, .func (.func 57) #[] #[.pointer (some ⟨W2.heap.size + 1 + 1, 0, none⟩)], .int .i64 x.val.1, .int .i64 v, .slice (some ⟨b, off, none⟩) G.length cap, .int .i64 v, .pointer (some ⟨b, off + v, none⟩), .slice (some ⟨c, o, none⟩) row.length rc, .int .i64 row.length, .int .i64 k, .bool true, .pointer (some ⟨c, o + k, none⟩), .int .i64 m, t 0, t 1, t 2, t 3, t 4, t 5, t 6, t 7, t 8, t 9, t 10, t 11, t 12, u46, undef], defers := [] }) (W1 := wr.drew) (W' := (wr.drew).setCell ⟨W2.heap.size, v, none⟩ (.int .i64 (if qv < wrap64 (qm + 1) then wrap64 (qm + 1) else qv))) 11 (.int .i64 (if qv < wrap64 (qm + 1) then wrap64 (qm + 1) else qv)) (by decide) ht hn13 (by rw [hval]; rfl)
            refine Rg.want ho rfl (fun K' hK => ?_)
            replace hK := hK _ _ hnext
            clear hnext ht h2 hI13 hs h1 hN hn13 hi14 hwx hval ho
            dsimp only
            first | gi_big_move | gi_big_op
            first | exact hK | (rw [hmx2] at hK; exact hK)
          · have ho' := ho
            simp only [List.getElem?_toArray, List.getElem?_cons_zero, List.getElem?_cons_succ, Option.some.injEq] at ho'
            subst ho'
            have hn13 : listed.getD 13 false = false := by
              cases h13 : listed.getD 13 false with
              | false => rfl
              | true => exact absurd (hI13 h13 12 (by decide)) (by rw [hN 12 h1]; decide)
            obtain rfl : wx = wr.drew := by rw [hwx, if_neg (by rw [hn13]; decide)]
            have p0 : t 0 = .slice (some ⟨W2.heap.size, 0, none⟩) G.length G.length := by rw [ht 0 (by decide) (h2 ⟨0, .data⟩ (by simp) rfl), hval]; rfl
            have p1 : t 1 = .int .i64 v := by rw [ht 1 (by decide) (h2 ⟨1, .data⟩ (by simp) rfl), hval]; rfl
            have hnext := He.Inv10.next (fr := fun t => { tmps := #[.slice (some ⟨b, off, none⟩) G.length cap, .pointer (some ⟨w.heap.size, 0, none⟩), .slice none 0 0, .bool false, .slice b2 L.length c2, .pointer (some ⟨W2.heap.size + 1, 0, none⟩), undef, .int .i64 v, undef, .int .i64 m, .slice (some ⟨b, off, none⟩) G.length cap, .slice b2 L.length c2, .slice b2 L.length c2, .int .i64 L.length, .slice (some ⟨b, off, none⟩) G.length cap, .int .i64 G.length, .bool false, .slice (some ⟨b, off, none⟩) G.length cap, .int .i64 G.length, .slice (some ⟨W2.heap.size, 0, none⟩) G.length G.length, .slice b2 L.length c2, .func (.func 57) #[] #[.pointer (some ⟨W2.heap.size + 1 + 1, 0, none⟩)], .int .i64 x.val.1, .int .i64 v, .slice (some ⟨b, off, none⟩) G.length cap, .int .i64 v, .pointer (some ⟨b, off + v, none⟩), .slice (some ⟨c, o, none⟩) row.length rc, .int .i64 row.length, .int .i64 k, .bool true, .pointer (some ⟨c, o + k, none⟩), .int .i64 m, t 0, t 1, t 2, t 3, t 4, t 5, t 6, t 7, t 8, t 9, t 10, t 11, t 12, u46, undef], defers := [] }) (W1 := wr.drew) (W' := (wr.drew).setCell ⟨W2.heap.size, v, none⟩ (.int .i64 (if qv < wrap64 (qm + 1) then wrap64 (qm + 1) else qv))) 12 (.pointer (some ⟨W2.heap.size, v, none⟩)) (by decide) ht hn13 (by rw [hval]; rfl)
            refine Rg.want ho rfl (fun K' hK => ?_)
            replace hK := hK _ _ hnext
            clear hnext ht h2 hI13 hs h1 hN hn13 hi14 hwx hval ho
            dsimp only
            first | gi_big_move | gi_big_op
            first | exact hK | (rw [hmx2] at hK; exact hK)
          · have ho' := ho
            simp only [List.getElem?_toArray, List.getElem?_cons_zero, List.getElem?_cons_succ, Option.some.injEq] at ho'
            subst ho'
            have hn13 : listed.getD 13 false = false := by
              cases h13 : listed.getD 13 false with
              | false => rfl
              | true => exact absurd (h13) (by rw [hN 13 h1]; decide)
            obtain rfl : wx = wr.drew := by rw [hwx, if_neg (by rw [hn13]; decide)]
            have p12 : t 12 = .pointer (some ⟨W2.heap.size, v, none⟩) := by rw [ht 12 (by decide) (h2 ⟨12, .data⟩ (by simp) rfl), hval]; rfl
            have p11 : t 11 = .int .i64 (if qv < wrap64 (qm + 1) then wrap64 (qm + 1) else qv) := by rw [ht 11 (by decide) (h2 ⟨11, .data⟩ (by simp) rfl), hval]; rfl
            have hnext : He.Inv10 (fun t => { tmps := #[.slice (some ⟨b, off, none⟩) G.length cap, .pointer (some ⟨w.heap.size, 0, none⟩), .slice none 0 0, .bool false, .slice b2 L.length c2, .pointer (some ⟨W2.heap.size + 1, 0, none⟩), undef, .int .i64 v, undef, .int .i64 m, .slice (some ⟨b, off, none⟩) G.length cap, .slice b2 L.length c2, .slice b2 L.length c2, .int .i64 L.length, .slice (some ⟨b, off, none⟩) G.length cap, .int .i64 G.length, .bool false, .slice (some ⟨b, off, none⟩) G.length cap, .int .i64 G.length, .slice (some ⟨W2.heap.size, 0, none⟩) G.length G.length, .slice b2 L.length c2, .func (.func 57) #[] #[.pointer (some ⟨W2.heap.size + 1 + 1, 0, none⟩)], .int .i64 x.val.1, .int .i64 v, .slice (some ⟨b, off, none⟩) G.length cap, .int .i64 v, .pointer (some ⟨b, off + v, none⟩), .slice (some ⟨c, o, none⟩) row.length rc, .int .i64 row.length, .int .i64 k, .bool true, .pointer (some ⟨c, o + k, none⟩), .int .i64 m, t 0, t 1, t 2, t 3, t 4, t 5, t 6, t 7, t 8, t 9, t 10, t 11, t 12, u46, undef], defers := [] }) val wr.drew ((wr.drew).setCell ⟨W2.heap.size, v, none⟩ (.int .i64 (if qv < wrap64 (qm + 1) then wrap64 (qm + 1) else qv))) (listed.setIfInBounds 13 true) ((fun t => { tmps := #[.slice (some ⟨b, off, none⟩) G.length cap, .pointer (some ⟨w.heap.size, 0, none⟩), .slice none 0 0, .bool false, .slice b2 L.length c2, .pointer (some ⟨W2.heap.size + 1, 0, none⟩), undef, .int .i64 v, undef, .int .i64 m, .slice (some ⟨b, off, none⟩) G.length cap, .slice b2 L.length c2, .slice b2 L.length c2, .int .i64 L.length, .slice (some ⟨b, off, none⟩) G.length cap, .int .i64 G.length, .bool false, .slice (some ⟨b, off, none⟩) G.length cap, .int .i64 G.length, .slice (some ⟨W2.heap.size, 0, none⟩) G.length G.length, .slice b2 L.length c2, .func (.func 57) #[] #[.pointer (some ⟨W2.heap.size + 1 + 1, 0, none⟩)], .int .i64 x.val.1, .int .i64 v, .slice (some ⟨b, off, none⟩) G.length cap, .int .i64 v, .pointer (some ⟨b, off + v, none⟩), .slice (some ⟨c, o, none⟩) row.length rc, .int .i64 row.length, .int .i64 k, .bool true, .pointer (some ⟨c, o + k, none⟩), .int .i64 m, t 0, t 1, t 2, t 3, t 4, t 5, t 6, t 7, t 8, t 9, t 10, t 11, t 12, u46, undef], defers := [] } : (Nat → Value) → Act) t) ((wr.drew).setCell ⟨W2.heap.size, v, none⟩ (.int .i64 (if qv < wrap64 (qm + 1) then wrap64 (qm + 1) else qv))) := by
              refine ⟨t, rfl, fun j hj hx => ?_, fun _ j hj => ?_, ?_⟩
              · rw [Rg.getD_set, if_neg (by omega)] at hx; exact ht j hj hx
              · rw [Rg.getD_set, if_neg (by omega)]
                have hjj : j = 0 ∨ j = 1 ∨ j = 2 ∨ j = 3 ∨ j = 4 ∨ j = 5 ∨ j = 6 ∨ j = 7 ∨ j = 8 ∨ j = 9 ∨ j = 10 ∨ j = 11 ∨ j = 12 := by omega
                rcases hjj with rfl | rfl | rfl | rfl | rfl | rfl | rfl | rfl | rfl | rfl | rfl | rfl | rfl
                · exact h2 ⟨0, .phase⟩ (by simp) rfl
                · exact h2 ⟨1, .phase⟩ (by simp) rfl
                · exact h2 ⟨2, .phase⟩ (by simp) rfl
                · exact h2 ⟨3, .phase⟩ (by simp) rfl
                · exact h2 ⟨4, .phase⟩ (by simp) rfl
                · exact h2 ⟨5, .phase⟩ (by simp) rfl
                · exact h2 ⟨6, .phase⟩ (by simp) rfl
                · exact h2 ⟨7, .phase⟩ (by simp) rfl
                · exact h2 ⟨8, .phase⟩ (by simp) rfl
                · exact h2 ⟨9, .phase⟩ (by simp) rfl
                · exact h2 ⟨10, .phase⟩ (by simp) rfl
                · exact h2 ⟨11, .phase⟩ (by simp) rfl
                · exact h2 ⟨12, .data⟩ (by simp) rfl
              · exact (if_pos (by rw [Rg.getD_set]; simp [hs])).symm
            refine Rg.want ho rfl (fun K' hK => ?_)
            replace hK := hK _ _ hnext
            clear hnext ht h2 hI13 hs h1 hN hn13 hi14 hwx hval ho
            dsimp only
            first | gi_big_move | gi_big_op
            first | exact hK | (rw [hmx2] at hK; exact hK)
        case hfin14 =>
          rintro listed a wx ⟨t, rfl, ht, hI13, rfl⟩ hall
          have h13 := hall 13 (by decide)
          rw [if_pos h13]
          have p0 : t 0 = .slice (some ⟨W2.heap.size, 0, none⟩) G.length G.length := by rw [ht 0 (by decide) (hI13 h13 0 (by decide)), hval]; rfl
          have p1 : t 1 = .int .i64 v := by rw [ht 1 (by decide) (hI13 h13 1 (by decide)), hval]; rfl
          have p2 : t 2 = .slice (some ⟨W2.heap.size, 0, none⟩) G.length G.length := by rw [ht 2 (by decide) (hI13 h13 2 (by decide)), hval]; rfl
          have p3 : t 3 = .int .i64 v := by rw [ht 3 (by decide) (hI13 h13 3 (by decide)), hval]; rfl
          have p4 : t 4 = .pointer (some ⟨W2.heap.size, v, none⟩) := by rw [ht 4 (by decide) (hI13 h13 4 (by decide)), hval]; rfl
          have p5 : t 5 = .int .i64 qv := by rw [ht 5 (by decide) (hI13 h13 5 (by decide)), hval]; rfl
          have p6 : t 6 = .slice (some ⟨W2.heap.size, 0, none⟩) G.length G.length := by rw [ht 6 (by decide) (hI13 h13 6 (by decide)), hval]; rfl
          have p7 : t 7 = .int .i64 m := by rw [ht 7 (by decide) (hI13 h13 7 (by decide)), hval]; rfl
          have p8 : t 8 = .pointer (some ⟨W2.heap.size, m, none⟩) := by rw [ht 8 (by decide) (hI13 h13 8 (by decide)), hval]; rfl
          have p9 : t 9 = .int .i64 qm := by rw [ht 9 (by decide) (hI13 h13 9 (by decide)), hval]; rfl
          have p10 : t 10 = .int .i64 (wrap64 (qm + 1)) := by rw [ht 10 (by decide) (hI13 h13 10 (by decide)), hval]; rfl
          have p11 : t 11 = .int .i64 (if qv < wrap64 (qm + 1) then wrap64 (qm + 1) else qv) := by rw [ht 11 (by decide) (hI13 h13 11 (by decide)), hval]; rfl
          have p12 : t 12 = .pointer (some ⟨W2.heap.size, v, none⟩) := by rw [ht 12 (by decide) (hI13 h13 12 (by decide)), hval]; rfl
          have hkeep : ∀ j, j ≠ W2.heap.size → ((wr.drew).setCell ⟨W2.heap.size, v, none⟩ (.int .i64 (if qv < wrap64 (qm + 1) then wrap64 (qm + 1) else qv))).heap[j]? = wr.heap[j]? := fun j hj => Below.heap_setCell _ _ _ j hj
          have hnew : He.Blk ((wr.drew).setCell ⟨W2.heap.size, v, none⟩ (.int .i64 (if qv < wrap64 (qm + 1) then wrap64 (qm + 1) else qv))) W2.heap.size ((He.one (v : Int) q (m : Int)).map (Value.int .i64)) 3 := by
            rw [Go.Pb.heap_setCell (w := wr.drew) (show (wr.drew).heap[W2.heap.size]? = _ from hRk)]
            refine (setRow_heap _ _ _ _ _ _ (show (wr.drew).heap[W2.heap.size]? = _ from hRk)).trans ?_
            rw [List.setIfInBounds_toArray, He.one, List.map_set]
            simp only [Int.toNat_natCast, hqv', hqm']
          have hoth : KeepsOthers wr ((wr.drew).setCell ⟨W2.heap.size, v, none⟩ (.int .i64 (if qv < wrap64 (qm + 1) then wrap64 (qm + 1) else qv))) := (KeepsOthers.drew _).trans (KeepsOthers.setCell _ _ _)
          have hbut : Bk.But (W2.heap.size + 3) W2.heap.size wr ((wr.drew).setCell ⟨W2.heap.size, v, none⟩ (.int .i64 (if qv < wrap64 (qm + 1) then wrap64 (qm + 1) else qv))) := ⟨hoth.size, fun j _ hj => hkeep j hj⟩
          have hbel : Below w.heap.size w ((wr.drew).setCell ⟨W2.heap.size, v, none⟩ (.int .i64 (if qv < wrap64 (qm + 1) then wrap64 (qm + 1) else qv))) := (hWk.drew).setCell (p := ⟨W2.heap.size, v, none⟩) (by show w.heap.size ≤ W2.heap.size; omega) _
          have hO2 : Boxed ((wr.drew).setCell ⟨W2.heap.size, v, none⟩ (.int .i64 (if qv < wrap64 (qm + 1) then wrap64 (qm + 1) else qv))) (W2.heap.size + 1) 31 (.slice (some ⟨W2.heap.size, 0, none⟩) G.length G.length) := (hkeep _ (by omega)).trans hOk
          have hB2 : Boxed ((wr.drew).setCell ⟨W2.heap.size, v, none⟩ (.int .i64 (if qv < wrap64 (qm + 1) then wrap64 (qm + 1) else qv))) w.heap.size 22 (.slice (some ⟨b, off, none⟩) G.length cap) := (hkeep _ (by omega)).trans hBk
          generalize (wr.drew).setCell ⟨W2.heap.size, v, none⟩ (.int .i64 (if qv < wrap64 (qm + 1) then wrap64 (qm + 1) else qv)) = wn at hnew hoth hbut hbel hO2 hB2 ⊢
          have hk1 : KeepsOthers W wn := hKk.trans hoth
          have hk2 : Bk.But (W2.heap.size + 3) W2.heap.size W wn := hTk.trans hbut
          clear hkeep hoth hbut
          dsimp only
          rw [p0, p1, p2, p3, p4, p5, p6, p7, p8, p9, p10, p11, p12]
          clear ht hI13 hall h13 hval p0 p1 p2 p3 p4 p5 p6 p7 p8 p9 p10 p11 p12
          have hwk : wrap64 ((k : Int) + 1) = (k : Int) + 1 := He.w64 hlt hRl'
          clear hRl' hGr'
          gi_wp2
          go_roundw
          case rel => exact ⟨k + 1, hlt, by rw [hwk]; simp, by rw [hnext]; exact hnew, hO2, hB2, hk1, hk2, hbel⟩
          case measure =>
            rw [hwk]
            exact He.meas2 hlt
      · obtain rfl : k = row.length := by omega
        gi_wp2
        simpa using hRk
  case done =>
    rintro D ys W hD rfl ⟨⟨hRd, hOd, hBd⟩, hBW⟩ hK
    have hOc := hOd.cell
    gi_wp2
    refine ⟨by simp, .inl ⟨_, _, rfl, run_takeDeferred hK, ?_⟩⟩
    refine ⟨.tuple #[.slice (some ⟨W2.heap.size, 0, none⟩) G.length G.length, .bool true], ?_, hBW.trans (belowK_b (w := w) (Nat.le_refl _) W D _ _ (by omega) hK rfl rfl), fun h => absurd h (by assumption), fun _ => ⟨W2.heap.size, by omega, rfl, hRd.kept (grownBy_putObj' _ _ _) (fun e => by cases e; rw [show W.heap[W2.heap.size]? = _ from hRd] at hK; cases hK)⟩⟩
    simp [results, Try.f40, go_sem]
  case stop =>
    rintro D c pre W _ _ h _
    exact h.elim
end Go.Proofs
