/-
  Plain library, part 29: a call's own memory az0 a list of what it holds.
-/
import Derived.Test.YtkgnjpoafilicaaPbR
set_option linter.unusedVariables false
set_option linter.unusedSimpArgs false
namespace Go.Pb
open Go Go.RowKit

/-- A place of own memory: its address or the slice over it, the type and the size of its parts, and the parts. -/
structure Ent where
  v : PV
  ty : TypeId
  sz : Nat
  es : List PV

/-- An entry of a map, az0 two cells. -/
def encKV (e : Value × PV) : PV := .agg [.sc e.1, e.2]
/-- No address of a record, no map. -/
def isL : PV → Bool
  | .op _ _ _ => false
  | .om _ _ => false
  | _ => true
def EntV (h : Heap) (ty : TypeId) (es : List PV) : PV → Prop
  | .op id ver 0 => ∃ x cs, es = [x] ∧ x.cellsOf = some cs ∧ blk h id = some (.cells ver ty true cs)
  | .os id ver 0 n => n = es.length ∧ ∃ cs, rowCells es = some cs ∧ blk h id = some (.cells ver ty true cs)
  | .sc (.slice _ 0 0) => es = []
  | .fs true es' => es' = es
  | .om id ver => ∃ ms : List (Value × PV), es = ms.map encKV ∧ blk h id = some (.mp ver ms)
  | _ => False
def EntR (h : Heap) (e : Ent) : Prop := (∀ x ∈ e.es, cnt x = some e.sz) ∧ EntV h e.ty e.es e.v
def idOf : PV → Option Nat
  | .op id _ _ => some id
  | .os id _ _ _ => some id
  | .om id _ => some id
  | _ => none
def Apart (a b : Ent) : Prop := ∀ i, idOf a.v = some i → idOf b.v = some i → False
structure Mem (h : Heap) (L : List Ent) : Prop where
  ent : ∀ e ∈ L, EntR h e
  dis : L.Pairwise Apart

theorem Apart.symm {a b : Ent} (h : Apart a b) : Apart b a := fun i h1 h2 => h i h2 h1
theorem Mem.nil (h : Heap) : Mem h [] := ⟨fun e he => by simp at he, .nil⟩
theorem Mem.at {h : Heap} {L : List Ent} (M : Mem h L) {k : Nat} {e : Ent} (hk : L[k]? = some e) : EntR h e := M.ent e (List.mem_of_getElem? hk)
theorem Mem.atF {h : Heap} {L : List Ent} (M : Mem h L) {k : Nat} {v : PV} {ty : TypeId} {sz : Nat} {es : List PV} (hk : L[k]? = some ⟨v, ty, sz, es⟩) : (∀ x ∈ es, cnt x = some sz) ∧ EntV h ty es v := M.ent _ (List.mem_of_getElem? hk)
theorem Mem.sub {h : Heap} {L L' : List Ent} (M : Mem h L) (s : L'.Sublist L) : Mem h L' := ⟨fun e he => M.ent e (s.subset he), M.dis.sublist s⟩

/-- What leaves the blocks of the others alone. -/
theorem EntR.frame {h h' : Heap} {e : Ent} (H : EntR h e) (hb : ∀ i, idOf e.v = some i → i < hlen h → blk h' i = blk h i) : EntR h' e := by
  refine ⟨H.1, ?_⟩
  have H2 := H.2
  unfold EntV at H2 ⊢
  split at H2
  · obtain ⟨x, cs, h1, h2, h3⟩ := H2
    exact ⟨x, cs, h1, h2, by rw [hb _ (by simp_all [idOf]) (blk_lt h3)]; exact h3⟩
  · obtain ⟨h1, cs, h2, h3⟩ := H2
    exact ⟨h1, cs, h2, by rw [hb _ (by simp_all [idOf]) (blk_lt h3)]; exact h3⟩
  · exact H2
  · exact H2
  · obtain ⟨ms, h1, h2⟩ := H2
    exact ⟨ms, h1, by rw [hb _ (by simp_all [idOf]) (blk_lt h2)]; exact h2⟩
  · exact H2
theorem EntR.lt {h : Heap} {e : Ent} (H : EntR h e) {i : Nat} (hi : idOf e.v = some i) : i < hlen h := by
  have H2 := H.2
  unfold EntV at H2
  split at H2
  · obtain ⟨x, cs, h1, h2, h3⟩ := H2
    have := blk_lt h3
    simp_all [idOf]
  · obtain ⟨h1, cs, h2, h3⟩ := H2
    have := blk_lt h3
    simp_all [idOf]
  · simp_all [idOf]
  · simp_all [idOf]
  · obtain ⟨ms, h1, h2⟩ := H2
    have := blk_lt h2
    simp_all [idOf]
  · exact H2.elim

theorem Mem.new {h h' : Heap} {L : List Ent} {e : Ent} (M : Mem h L) (he : EntR h' e) (hi : ∀ i, idOf e.v = some i → hlen h ≤ i) (hb : ∀ i, i < hlen h → blk h' i = blk h i) : Mem h' (e :: L) := by
  refine ⟨fun x hx => ?_, .cons (fun x hx i h1 h2 => ?_) M.dis⟩
  · rcases List.mem_cons.1 hx with rfl | hx
    · exact he
    · exact (M.ent x hx).frame fun i _ hi => hb i hi
  · have := (M.ent x hx).lt h2
    have := hi i h1
    omega

theorem pairwise_set {L : List Ent} (hp : L.Pairwise Apart) {k : Nat} {e e' : Ent} (hk : L[k]? = some e) (hn : ∀ x ∈ L, Apart e x → Apart e' x) : (L.set k e').Pairwise Apart := by
  induction L generalizing k with
  | nil => simp at hk
  | cons a L ih =>
    cases k with
    | zero =>
      simp only [List.getElem?_cons_zero, Option.some.injEq] at hk
      subst hk
      simp only [List.set_cons_zero]
      rw [List.pairwise_cons] at hp ⊢
      exact ⟨fun x hx => hn x (by simp [hx]) (hp.1 x hx), hp.2⟩
    | succ k =>
      simp only [List.getElem?_cons_succ] at hk
      simp only [List.set_cons_succ]
      rw [List.pairwise_cons] at hp ⊢
      refine ⟨fun x hx => ?_, ih hp.2 hk fun x hx => hn x (by simp [hx])⟩
      rcases List.mem_or_eq_of_mem_set hx with h1 | h1
      · exact hp.1 x h1
      · subst h1
        exact (hn a (by simp) (hp.1 e (List.mem_of_getElem? hk)).symm).symm

theorem pairwise_other {L : List Ent} (hp : L.Pairwise Apart) {k : Nat} {e : Ent} (hk : L[k]? = some e) {j : Nat} (hj : j ≠ k) {x : Ent} (hx : L[j]? = some x) : Apart e x := by
  rw [List.pairwise_iff_getElem] at hp
  obtain ⟨h1, rfl⟩ := List.getElem?_eq_some_iff.1 hk
  obtain ⟨h2, rfl⟩ := List.getElem?_eq_some_iff.1 hx
  rcases Nat.lt_or_gt_of_ne hj with h | h
  · exact (hp j k h2 h1 h).symm
  · exact hp k j h1 h2 h

/-- One place written, or moved to a new block. -/
theorem Mem.upd {h h' : Heap} {L : List Ent} {k : Nat} {e e' : Ent} (M : Mem h L) (hk : L[k]? = some e) (he : EntR h' e') (hi : ∀ i, idOf e'.v = some i → idOf e.v = some i ∨ hlen h ≤ i) (hb : ∀ i, i < hlen h → idOf e.v ≠ some i → blk h' i = blk h i) : Mem h' (L.set k e') := by
  have key : ∀ x ∈ L, Apart e x → Apart e' x := fun x hx ha i h1 h2 => by
    rcases hi i h1 with h3 | h3
    · exact ha i h3 h2
    · have := (M.ent x hx).lt h2; omega
  refine ⟨fun x hx => ?_, pairwise_set M.dis hk key⟩
  obtain ⟨j, hj⟩ := List.getElem?_of_mem hx
  by_cases hjk : j = k
  · subst hjk
    rw [List.getElem?_set_self (List.getElem?_eq_some_iff.1 hk).1] at hj
    simp only [Option.some.injEq] at hj
    subst hj
    exact he
  · rw [List.getElem?_set_ne (fun e => hjk e.symm)] at hj
    have ha := pairwise_other M.dis hk hjk hj
    exact (M.ent x (List.mem_of_getElem? hj)).frame fun i h1 h2 => hb i h2 fun h3 => ha i h3 h1

section
variable {P : Program} {h : Heap} {L : List Ent} {E : TEnv} {k : Nat} {ty : TypeId} {sz : Nat}

theorem cells_of_cnt {x : PV} {n : Nat} (hx : cnt x = some n) : ∃ cs, x.cellsOf = some cs ∧ cs.length = n := by
  cases x <;> simp [cnt] at hx <;> simp [PV.cellsOf, hx]

theorem mem_own {x : PV} {n : Nat} (M : Mem h L) (hx : cnt x = some n) (t : TypeId) : ∃ id ver h', ownR h t x = some (.op id ver 0, h') ∧ Mem h' (⟨.op id ver 0, t, n, [x]⟩ :: L) := by
  obtain ⟨cs, h1, h2⟩ := cells_of_cnt hx
  refine ⟨hlen h, h.nv, hnew h (.cells h.nv t true cs), by simp only [ownR, h1]; rfl, M.new ⟨by simp [hx], x, cs, rfl, h1, by simp⟩ (fun i hi => by simp [idOf] at hi; omega) fun i hi => by simp [hi]⟩
theorem lv_box {o : Operand} {x : PV} {n : Nat} {t : TypeId} (M : Mem h L) (ex : evE E o = some x) (hx : cnt x = some n) : ∃ id ver h', LV P (.box true t o) E h (.op id ver 0) h' ∧ Mem h' (⟨.op id ver 0, t, n, [x]⟩ :: L) := by
  obtain ⟨id, ver, h', h1, h2⟩ := mem_own M hx t
  exact ⟨id, ver, h', ⟨rfl, fun T hT => by show ownR h t (ev T o) = _; rw [evE_ok hT ex, h1]⟩, h2⟩
theorem lv_alloc {z : Value} {n : Nat} {t : TypeId} {x : PV} (M : Mem h L) (hz : PV.ofConst z = x) (hx : cnt x = some n) : ∃ id ver h', LV P (.alloc true t z) E h (.op id ver 0) h' ∧ Mem h' (⟨.op id ver 0, t, n, [x]⟩ :: L) := by
  subst hz
  obtain ⟨id, ver, h', h1, h2⟩ := mem_own M hx t
  exact ⟨id, ver, h', ⟨rfl, fun T hT => h1⟩, h2⟩

theorem load_whole {id ver : Nat} {x : PV} {agg : Bool} (M : Mem h L) (hk : L[k]? = some ⟨.op id ver 0, ty, sz, [x]⟩) (ha : x.isAgg = agg) : loadR h sz agg (.op id ver 0) = some x := by
  obtain ⟨h1, x', cs, h2, h3, h4⟩ := M.atF hk
  simp only [List.cons.injEq, and_true] at h2
  subst h2
  have hc := h1 x (by simp)
  rw [n_load, h4]
  obtain ⟨cs', h5, h6⟩ := cells_of_cnt hc
  rw [h3] at h5
  simp only [Option.some.injEq] at h5
  subst h5
  simp only [loadB, if_true, fieldOf]
  rw [if_pos (by omega), List.drop_zero, ← h6, List.take_length]
  subst ha
  cases x <;> simp [PV.cellsOf] at h3 <;> subst h3 <;> simp [mkV, PV.isAgg]
theorem load_field {id ver off sz' : Nat} {x w : PV} {agg : Bool} (M : Mem h L) (hk : L[k]? = some ⟨.op id ver 0, ty, sz, [x]⟩) (hf : fieldR off sz' agg x = some w) : loadR h sz' agg (.op id ver (0 + off)) = some w := by
  obtain ⟨h1, x', cs, h2, h3, h4⟩ := M.atF hk
  simp only [List.cons.injEq, and_true] at h2
  subst h2
  rw [n_load, h4]
  cases x <;> simp [fieldR] at hf
  simp only [PV.cellsOf, Option.some.injEq] at h3
  subst h3
  simpa [loadB] using hf
theorem ov_load0 {o : Operand} {id ver : Nat} {x : PV} {agg : Bool} (M : Mem h L) (eo : evE E o = some (.op id ver 0)) (hk : L[k]? = some ⟨.op id ver 0, ty, sz, [x]⟩) (ha : x.isAgg = agg) : OV P (.load sz agg o) false E h x :=
  ov_loadh eo (load_whole M hk ha)
theorem ov_loadf {o : Operand} {id ver off sz' : Nat} {x w : PV} {agg : Bool} (M : Mem h L) (eo : evE E o = some (.op id ver (0 + off))) (hk : L[k]? = some ⟨.op id ver 0, ty, sz, [x]⟩) (hf : fieldR off sz' agg x = some w) : OV P (.load sz' agg o) false E h w :=
  ov_loadh eo (load_field M hk hf)

theorem mem_store {id ver : Nat} {x v : PV} (M : Mem h L) (hk : L[k]? = some ⟨.op id ver 0, ty, sz, [x]⟩) (hv : cnt v = some sz) : ∃ h', storeR h sz (.op id ver 0) v = some (.tup [], h') ∧ Mem h' (L.set k ⟨.op id ver 0, ty, sz, [v]⟩) := by
  have H := M.atF hk
  obtain ⟨h1, x', cs, h2, h3, h4⟩ := H
  simp only [List.cons.injEq, and_true] at h2
  subst h2
  obtain ⟨cs', h5, h6⟩ := cells_of_cnt (h1 x (by simp))
  rw [h3] at h5
  simp only [Option.some.injEq] at h5
  subst h5
  obtain ⟨ds, h7, h8⟩ := cells_of_cnt hv
  have hs : spl cs 0 ds = ds := by simp [spl]; omega
  refine ⟨hput h id (.cells ver ty true ds), ?_, M.upd hk ⟨by simp [hv], v, ds, rfl, h7, by simp [blk_lt h4]⟩ (fun i hi => .inl hi) fun i hi hne => ?_⟩
  · rw [n_store, h4]
    simp [storeB, h7, h8, h6, hs]
  · exact blk_put_ne _ _ _ _ fun e => hne (by simp [idOf, e])
theorem mem_storef {id ver off : Nat} {cs ds : List PV} {v : PV} (M : Mem h L) (hk : L[k]? = some ⟨.op id ver 0, ty, sz, [.agg cs]⟩) (hv : v.cellsOf = some ds) (hl : off + ds.length ≤ cs.length) : ∃ h', storeR h ds.length (.op id ver (0 + off)) v = some (.tup [], h') ∧ Mem h' (L.set k ⟨.op id ver 0, ty, sz, [.agg (spl cs off ds)]⟩) := by
  have H := M.atF hk
  obtain ⟨h1, x', cs', h2, h3, h4⟩ := H
  simp only [List.cons.injEq, and_true] at h2
  subst h2
  simp only [PV.cellsOf, Option.some.injEq] at h3
  subst h3
  have hc := h1 _ (List.mem_singleton.2 rfl)
  simp only [cnt, Option.some.injEq] at hc
  have hsl : (spl cs off ds).length = sz := by simp [spl]; omega
  refine ⟨hput h id (.cells ver ty true (spl cs off ds)), ?_, M.upd hk ⟨by simp [cnt, hsl], _, _, rfl, rfl, by simp [blk_lt h4]⟩ (fun i hi => .inl hi) fun i hi hne => ?_⟩
  · rw [n_store, h4, Nat.zero_add]
    simp [storeB, hv, hl]
  · exact blk_put_ne _ _ _ _ fun e => hne (by simp [idOf, e])
theorem lv_store {o o' : Operand} {id ver : Nat} {x v : PV} (M : Mem h L) (eo : evE E o = some (.op id ver 0)) (ev' : evE E o' = some v) (hk : L[k]? = some ⟨.op id ver 0, ty, sz, [x]⟩) (hv : cnt v = some sz) : ∃ h', LV P (.store sz o o') E h (.tup []) h' ∧ Mem h' (L.set k ⟨.op id ver 0, ty, sz, [v]⟩) := by
  obtain ⟨h', h1, h2⟩ := mem_store M hk hv
  exact ⟨h', ⟨rfl, fun T hT => by show storeR h sz (ev T o) (ev T o') = _; rw [evE_ok hT eo, evE_ok hT ev', h1]⟩, h2⟩
theorem lv_storef {o o' : Operand} {id ver off n : Nat} {cs ds : List PV} {v : PV} (M : Mem h L) (eo : evE E o = some (.op id ver (0 + off))) (ev' : evE E o' = some v) (hk : L[k]? = some ⟨.op id ver 0, ty, sz, [.agg cs]⟩) (hv : v.cellsOf = some ds) (hn : ds.length = n) (hl : off + ds.length ≤ cs.length) :
    ∃ h', LV P (.store n o o') E h (.tup []) h' ∧ Mem h' (L.set k ⟨.op id ver 0, ty, sz, [.agg (spl cs off ds)]⟩) := by
  subst hn
  obtain ⟨h', h1, h2⟩ := mem_storef M hk hv hl
  exact ⟨h', ⟨rfl, fun T hT => by show storeR h ds.length (ev T o) (ev T o') = _; rw [evE_ok hT eo, evE_ok hT ev', h1]⟩, h2⟩

/-! Slices -/
theorem rowCells_ex : ∀ {es : List PV}, (∀ x ∈ es, cnt x = some sz) → ∃ cs, rowCells es = some cs ∧ cs.length = es.length * sz
  | [], _ => ⟨[], rfl, by simp⟩
  | e :: es, hc => by
    obtain ⟨a, h1, h2⟩ := cells_of_cnt (hc e (by simp))
    obtain ⟨b, h3, h4⟩ := rowCells_ex (es := es) fun x hx => hc x (by simp [hx])
    exact ⟨a ++ b, by simp [rowCells, h1, h3], by simp [h2, h4, Nat.succ_mul]; omega⟩
theorem rowCells_app : ∀ {es fs : List PV} {cs ds : List PV}, rowCells es = some cs → rowCells fs = some ds → rowCells (es ++ fs) = some (cs ++ ds)
  | [], fs, cs, ds, h1, h2 => by simp only [rowCells, Option.some.injEq] at h1; subst h1; simpa using h2
  | e :: es, fs, cs, ds, h1, h2 => by
    simp only [rowCells] at h1
    cases ha : e.cellsOf with
    | none => simp [ha] at h1
    | some a =>
      cases hb : rowCells es with
      | none => simp [ha, hb] at h1
      | some b =>
        simp only [ha, hb, Option.some.injEq] at h1
        subst h1
        simp [rowCells, ha, rowCells_app hb h2]
theorem all_of {es : List PV} (hc : ∀ x ∈ es, cnt x = some sz) : es.all (fun v => cnt v == some sz) = true := by
  rw [List.all_eq_true]; intro x hx; simp [hc x hx]

theorem ent_len {e : Ent} (H : EntR h e) {t e' : TypeId} (ht : P.underlying t = some (.slice e')) (hne : isL e.v = true) (ty' : TypeId) : biF P .len [t].toArray ty' [e.v] = some (vi e.es.length) := by
  have H2 := H.2
  unfold EntV at H2
  split at H2
  · rename_i id ver hv; rw [hv] at hne; cases hne
  · rename_i id ver n hv
    rw [hv, len_os ht, H2.1]
  · rename_i ad hv
    rw [hv, len_of ht (.inl ⟨ad, rfl, rfl⟩), H2]
  · rename_i es' hv
    rw [hv, len_of ht (.inr ⟨true, rfl⟩), H2]
  · rename_i id ver hv; first | (rw [hv] at hne; cases hne) | (simp only at hv; rw [hv] at hne; cases hne)
  · exact H2.elim

/-- What an append adds. -/
def Src (h : Heap) (sz : Nat) (x : PV) (news : List PV) : Prop := ∃ cs, srcF h sz x = some (news.length, cs) ∧ rowCells news = some cs ∧ ∀ y ∈ news, cnt y = some sz
theorem src_sl {x : PV} {news : List PV} (hx : IsSl x news) (hc : ∀ y ∈ news, cnt y = some sz) : Src h sz x news := by
  obtain ⟨cs, h1, h2⟩ := rowCells_ex hc
  rcases hx with ⟨ad, rfl, rfl⟩ | ⟨t, rfl⟩
  · exact ⟨cs, by simp only [rowCells, Option.some.injEq] at h1; subst h1; rfl, h1, hc⟩
  · exact ⟨cs, by simp [srcF, all_of hc, h1], h1, hc⟩
theorem src_own {e : Ent} (H : EntR h e) (hs : e.sz = sz) (hne : isL e.v = true) : Src h sz e.v e.es := by
  subst hs
  have H2 := H.2
  obtain ⟨cs, h1, h2⟩ := rowCells_ex H.1
  unfold EntV at H2
  split at H2
  · rename_i id ver hv; rw [hv] at hne; cases hne
  · rename_i id ver n hv
    obtain ⟨hn, cs', h3, h4⟩ := H2
    rw [h1] at h3
    simp only [Option.some.injEq] at h3
    subst h3
    refine ⟨cs, ?_, h1, H.1⟩
    rw [hv]
    simp only [blk] at h4
    simp only [srcF, h4]
    rw [if_pos ⟨trivial, by subst hn; omega⟩, List.drop_zero, hn, ← h2, List.take_length]
  · rename_i ad hv
    rw [hv]
    exact src_sl (.inl ⟨ad, rfl, H2⟩) H.1
  · rename_i es' hv
    rw [hv]
    exact src_sl (.inr ⟨true, by rw [H2]⟩) H.1
  · rename_i id ver hv; first | (rw [hv] at hne; cases hne) | (simp only at hv; rw [hv] at hne; cases hne)
  · exact H2.elim

theorem mem_append {v x : PV} {es news : List PV} {b : Nat} (M : Mem h L) (hk : L[k]? = some ⟨v, ty, sz, es⟩) (hne : isL v = true) (hx : Src h sz x news) (hf : fits (es.length + news.length) b = true) :
    ∃ v' h', appendR h ty sz b v x = some (v', h') ∧ isL v' = true ∧ Mem h' (L.set k ⟨v', ty, sz, es ++ news⟩) := by
  obtain ⟨nc, hs1, hs2, hs3⟩ := hx
  have H := M.at hk
  have HF := M.atF hk
  obtain ⟨cs, h1, h2⟩ := rowCells_ex HF.1
  have hrow := rowCells_app h1 hs2
  have hall : ∀ y ∈ es ++ news, cnt y = some sz := fun y hy => by
    rcases List.mem_append.1 hy with h3 | h3
    · exact HF.1 y h3
    · exact hs3 y h3
  by_cases h0 : news.length = 0
  · have hn : news = [] := List.eq_nil_of_length_eq_zero h0
    subst hn
    rw [List.append_nil]
    have hset : L.set k ⟨v, ty, sz, es⟩ = L := by
      obtain ⟨h5, h6⟩ := List.getElem?_eq_some_iff.1 hk
      rw [← h6, List.set_getElem_self]
    refine ⟨v, h, ?_, hne, by rw [hset]; exact M⟩
    have H2 := H.2
    simp only [appendR, hs1, List.length_nil]
    unfold EntV at H2
    split at H2
    · rename_i id ver hv; simp only at hv; rw [hv] at hne; cases hne
    · rename_i id ver n hv; simp only at hv; rw [hv]; simp [appF]
    · rename_i ad hv; simp only at hv; rw [hv]; simp [appF]
    · rename_i es' hv; simp only at hv; rw [hv]; simp [appF]
    · rename_i id ver hv; simp only at hv; rw [hv] at hne; cases hne
    · exact H2.elim
  · have H2 := H.2
    simp only [appendR, hs1]
    unfold EntV at H2
    split at H2
    · rename_i id ver hv; simp only at hv; rw [hv] at hne; cases hne
    · rename_i id ver n hv
      simp only at hv H2
      obtain ⟨hn, cs', h3, h4⟩ := H2
      rw [h1] at h3
      simp only [Option.some.injEq] at h3
      subst h3 hv
      have h4' := h4
      simp only [blk] at h4'
      have htk : cs.take (n * sz) = cs := by rw [hn, ← h2, List.take_length]
      refine ⟨.os id h.nv 0 (n + news.length), hgrow h id (.cells h.nv ty true (cs ++ nc)), ?_, rfl, M.upd hk ⟨hall, by simp [hn], _, hrow, by simp [blk_lt h4]⟩ (fun i hi => .inl hi) fun i hi hne' => ?_⟩
      · simp only [appF, h0, if_false, h4']
        rw [if_pos ⟨trivial, trivial, by subst hn; omega, by rw [hn]; exact hf⟩, htk]
        rfl
      · exact blk_grow_ne _ _ _ _ fun e => hne' (by simp [idOf, e])
    · rename_i ad hv
      simp only at hv H2
      subst H2 hv
      simp only [List.length_nil, Nat.zero_add] at hf
      refine ⟨.os (hlen h) h.nv 0 news.length, hnew h (.cells h.nv ty true nc), ?_, rfl, M.upd hk ⟨by simpa using hs3, by simp, nc, by simpa using hs2, by simp⟩ (fun i hi => .inr (by simp [idOf] at hi; omega)) fun i hi _ => by simp [hi]⟩
      simp only [appF, h0, if_false, hf, if_true]
      rfl
    · rename_i es' hv
      simp only at hv H2
      subst H2 hv
      refine ⟨.os (hlen h) h.nv 0 (es'.length + news.length), hnew h (.cells h.nv ty true (cs ++ nc)), ?_, rfl, M.upd hk ⟨hall, by simp, _, hrow, by simp⟩ (fun i hi => .inr (by simp [idOf] at hi; omega)) fun i hi _ => by simp [hi]⟩
      simp only [appF, h0, if_false]
      rw [if_pos ⟨trivial, all_of HF.1, hf⟩, h1]
      rfl
    · rename_i id ver hv; simp only at hv; rw [hv] at hne; cases hne
    · exact H2.elim
theorem lv_append {t : TypeId} {o o' : Operand} {v x : PV} {es news : List PV} {b : Nat} (M : Mem h L) (eo : evE E o = some v) (ex : evE E o' = some x) (hk : L[k]? = some ⟨v, ty, sz, es⟩) (hne : isL v = true) (hx : Src h sz x news) (hf : fits (es.length + news.length) b = true) :
    ∃ v' h', LV P (.append t ty sz b o o') E h v' h' ∧ isL v' = true ∧ Mem h' (L.set k ⟨v', ty, sz, es ++ news⟩) := by
  obtain ⟨v', h', h1, h2, h3⟩ := mem_append M hk hne hx hf
  exact ⟨v', h', ⟨rfl, fun T hT => by show appendR h ty sz b (ev T o) (ev T o') = _; rw [evE_ok hT eo, evE_ok hT ex, h1]⟩, h2, h3⟩
/-- A list that starts out empty or frozen. -/
theorem mem_acc {v : PV} {es : List PV} (M : Mem h L) (ty : TypeId) (hv : (∃ ad, v = .sc (.slice ad 0 0) ∧ es = []) ∨ v = .fs true es) (hc : ∀ x ∈ es, cnt x = some sz) : Mem h (⟨v, ty, sz, es⟩ :: L) := by
  refine M.new ⟨hc, ?_⟩ (fun i hi => ?_) fun i hi => rfl
  · rcases hv with ⟨ad, rfl, rfl⟩ | rfl <;> rfl
  · rcases hv with ⟨ad, rfl, rfl⟩ | rfl <;> simp [idOf] at hi

theorem rowCells_rep {z : PV} {cs : List PV} (hz : z.cellsOf = some cs) (n : Nat) : rowCells (List.replicate n z) = some (repCells n cs) := by
  induction n with
  | zero => rfl
  | succ n ih =>
    simp only [repCells] at ih
    simp [List.replicate_succ, rowCells, hz, ih, repCells]
theorem mem_make {z : PV} {zs : List PV} {b n : Nat} {kk kk' : IntKind} (M : Mem h L) (hz : z.cellsOf = some zs) (hc : cnt z = some sz) (ty : TypeId) (hf : fits n b = true) : ∃ id ver h', mkSliceR h ty b zs (.sc (.int kk (n : Int))) (.sc (.int kk' (n : Int))) = some (.os id ver 0 n, h') ∧ Mem h' (⟨.os id ver 0 n, ty, sz, List.replicate n z⟩ :: L) := by
  refine ⟨hlen h, h.nv, hnew h (.cells h.nv ty true (repCells n zs)), ?_, M.new ⟨fun x hx => ?_, by simp, _, rowCells_rep hz n, by simp⟩ (fun i hi => by simp [idOf] at hi; omega) fun i hi => by simp [hi]⟩
  · simp [mkSliceR, hf]; exact ⟨rfl, rfl⟩
  · rw [(List.mem_replicate.1 hx).2]; exact hc
theorem lv_make {z : Value} {zs : List PV} {zz : PV} {b n : Nat} {kk kk' : IntKind} {o o' : Operand} (M : Mem h L) (e1 : evE E o = some (.sc (.int kk (n : Int)))) (e2 : evE E o' = some (.sc (.int kk' (n : Int)))) (ez : z.cells.toList.map PV.sc = zs) (hz : zz.cellsOf = some zs) (hc : cnt zz = some sz) (hf : fits n b = true) :
    ∃ id ver h', LV P (.mkSlice ty sz b z o o') E h (.os id ver 0 n) h' ∧ Mem h' (⟨.os id ver 0 n, ty, sz, List.replicate n zz⟩ :: L) := by
  obtain ⟨id, ver, h', h1, h2⟩ := mem_make (kk := kk) (kk' := kk') M hz hc ty hf
  exact ⟨id, ver, h', ⟨rfl, fun T hT => by show mkSliceR h ty b (z.cells.toList.map PV.sc) (ev T o) (ev T o') = _; rw [ez, evE_ok hT e1, evE_ok hT e2, h1]⟩, h2⟩

theorem rowCells_get : ∀ {es cs : List PV} {i : Nat} {x : PV}, (∀ y ∈ es, cnt y = some sz) → rowCells es = some cs → es[i]? = some x → i * sz + sz ≤ cs.length ∧ x.cellsOf = some ((cs.drop (i * sz)).take sz)
  | [], _, _, _, _, _, hi => by simp at hi
  | e :: es, cs, i, x, hc, hr, hi => by
    obtain ⟨a, h1, h2⟩ := cells_of_cnt (hc e (by simp))
    obtain ⟨b, h3, h4⟩ := rowCells_ex (es := es) (sz := sz) fun x hx => hc x (by simp [hx])
    simp only [rowCells, h1, h3, Option.some.injEq] at hr
    subst hr
    cases i with
    | zero =>
      simp only [List.getElem?_cons_zero, Option.some.injEq] at hi
      subst hi
      refine ⟨by simp; omega, ?_⟩
      rw [h1, Nat.zero_mul, List.drop_zero, ← h2, List.take_left' rfl]
    | succ i =>
      simp only [List.getElem?_cons_succ] at hi
      obtain ⟨h5, h6⟩ := rowCells_get (i := i) (fun y hy => hc y (by simp [hy])) h3 hi
      refine ⟨by simp [Nat.succ_mul]; omega, ?_⟩
      have e2 : (a ++ b).drop (a.length + i * sz) = b.drop (i * sz) := by rw [List.drop_append]; simp
      rw [h6, show (i + 1) * sz = a.length + i * sz by rw [Nat.succ_mul]; omega, e2]
theorem elem_load {id ver n i : Nat} {es : List PV} {x : PV} {agg : Bool} (M : Mem h L) (hk : L[k]? = some ⟨.os id ver 0 n, ty, sz, es⟩) (hi : es[i]? = some x) (ha : x.isAgg = agg) : loadR h sz agg (.op id ver (0 + i * sz)) = some x := by
  obtain ⟨h1, hn, cs, h2, h3⟩ := M.atF hk
  obtain ⟨h4, h5⟩ := rowCells_get h1 h2 hi
  rw [n_load, h3, Nat.zero_add]
  simp only [loadB, if_true, fieldOf]
  rw [if_pos h4]
  subst ha
  have hx := h1 x (List.mem_of_getElem? hi)
  generalize (cs.drop (i * sz)).take sz = ds at h5
  cases x <;> simp [PV.cellsOf] at h5 <;> subst h5 <;> simp [mkV, PV.isAgg]
theorem elem_field {id ver n i off sz' : Nat} {es : List PV} {x w : PV} {agg : Bool} (M : Mem h L) (hk : L[k]? = some ⟨.os id ver 0 n, ty, sz, es⟩) (hi : es[i]? = some x) (hf : fieldR off sz' agg x = some w) : loadR h sz' agg (.op id ver (0 + i * sz + off)) = some w := by
  obtain ⟨h1, hn, cs, h2, h3⟩ := M.atF hk
  obtain ⟨h4, h5⟩ := rowCells_get h1 h2 hi
  have hx := h1 x (List.mem_of_getElem? hi)
  rw [n_load, h3, Nat.zero_add]
  cases x <;> simp [fieldR] at hf
  simp only [PV.cellsOf, Option.some.injEq] at h5
  rename_i xs
  subst h5
  simp only [fieldOf] at hf
  split at hf
  · rename_i hle
    simp only [List.length_take, List.length_drop] at hle
    simp only [loadB, if_true, fieldOf]
    rw [if_pos (by omega)]
    rw [List.drop_take, List.take_take, List.drop_drop, Nat.min_eq_left (by omega)] at hf
    exact hf
  · cases hf
theorem ov_elem {o : Operand} {id ver n i : Nat} {es : List PV} {x : PV} {agg : Bool} (M : Mem h L) (eo : evE E o = some (.op id ver (0 + i * sz))) (hk : L[k]? = some ⟨.os id ver 0 n, ty, sz, es⟩) (hi : es[i]? = some x) (ha : x.isAgg = agg) : OV P (.load sz agg o) false E h x :=
  ov_loadh eo (elem_load M hk hi ha)
theorem ov_elemf {o : Operand} {id ver n i off sz' : Nat} {es : List PV} {x w : PV} {agg : Bool} (M : Mem h L) (eo : evE E o = some (.op id ver (0 + i * sz + off))) (hk : L[k]? = some ⟨.os id ver 0 n, ty, sz, es⟩) (hi : es[i]? = some x) (hf : fieldR off sz' agg x = some w) : OV P (.load sz' agg o) false E h w :=
  ov_loadh eo (elem_field M hk hi hf)

theorem rowCells_set : ∀ {es cs ds : List PV} {i : Nat} {v : PV}, (∀ y ∈ es, cnt y = some sz) → rowCells es = some cs → i < es.length → v.cellsOf = some ds → ds.length = sz → rowCells (es.set i v) = some (spl cs (i * sz) ds)
  | [], _, _, _, _, _, _, hi, _, _ => by simp at hi
  | e :: es, cs, ds, i, v, hc, hr, hi, hv, hd => by
    obtain ⟨a, h1, h2⟩ := cells_of_cnt (hc e (by simp))
    obtain ⟨b, h3, h4⟩ := rowCells_ex (es := es) (sz := sz) fun x hx => hc x (by simp [hx])
    simp only [rowCells, h1, h3, Option.some.injEq] at hr
    subst hr
    cases i with
    | zero =>
      simp only [List.set_cons_zero, rowCells, hv, h3, Nat.zero_mul, spl, List.take_zero, List.nil_append, Nat.zero_add]
      rw [hd, ← h2, List.drop_left' rfl]
    | succ i =>
      have := rowCells_set (i := i) (v := v) (fun y hy => hc y (by simp [hy])) h3 (by simpa using hi) hv hd
      simp only [List.set_cons_succ, rowCells, h1, this, Option.some.injEq]
      have e1 : (a ++ b).take (a.length + i * sz) = a ++ b.take (i * sz) := by rw [List.take_append, List.take_of_length_le (by omega)]; simp
      have e2 : (a ++ b).drop (a.length + i * sz + ds.length) = b.drop (i * sz + ds.length) := by rw [Nat.add_assoc, List.drop_append]; simp
      simp only [spl, show (i + 1) * sz = a.length + i * sz by rw [Nat.succ_mul]; omega, e1, e2, List.append_assoc]
theorem mem_set {id ver n i : Nat} {es : List PV} {v : PV} (M : Mem h L) (hk : L[k]? = some ⟨.os id ver 0 n, ty, sz, es⟩) (hi : i < es.length) (hv : cnt v = some sz) : ∃ h', storeR h sz (.op id ver (0 + i * sz)) v = some (.tup [], h') ∧ Mem h' (L.set k ⟨.os id ver 0 n, ty, sz, es.set i v⟩) := by
  obtain ⟨h1, hn, cs, h2, h3⟩ := M.atF hk
  obtain ⟨ds, h4, h5⟩ := cells_of_cnt hv
  have hg := rowCells_get h1 h2 (List.getElem?_eq_getElem hi)
  refine ⟨hput h id (.cells ver ty true (spl cs (i * sz) ds)), ?_, M.upd hk ⟨fun x hx => ?_, by simp [hn], _, rowCells_set h1 h2 hi h4 h5, by simp [blk_lt h3]⟩ (fun i hi => .inl hi) fun i hi hne => ?_⟩
  · rw [n_store, h3, Nat.zero_add]
    simp only [storeB, h4]
    rw [if_pos ⟨trivial, h5, by omega⟩]
  · rcases List.mem_or_eq_of_mem_set hx with h6 | h6
    · exact h1 x h6
    · rw [h6]; exact hv
  · exact blk_put_ne _ _ _ _ fun e => hne (by simp [idOf, e])
theorem lv_set {o o' : Operand} {id ver n i : Nat} {es : List PV} {v : PV} (M : Mem h L) (eo : evE E o = some (.op id ver (0 + i * sz))) (ev' : evE E o' = some v) (hk : L[k]? = some ⟨.os id ver 0 n, ty, sz, es⟩) (hi : i < es.length) (hv : cnt v = some sz) :
    ∃ h', LV P (.store sz o o') E h (.tup []) h' ∧ Mem h' (L.set k ⟨.os id ver 0 n, ty, sz, es.set i v⟩) := by
  obtain ⟨h', h1, h2⟩ := mem_set M hk hi hv
  exact ⟨h', ⟨rfl, fun T hT => by show storeR h sz (ev T o) (ev T o') = _; rw [evE_ok hT eo, evE_ok hT ev', h1]⟩, h2⟩

/-- An own slice, handed out. -/
theorem mem_deep {v : PV} {es : List PV} (M : Mem h L) (hk : L[k]? = some ⟨v, ty, sz, es⟩) (hne : isL v = true) (hc : closedL es = true) : ∃ r, Deep P h v r ∧ IsSl r es := by
  have H := M.at hk
  have HF := M.atF hk
  have H2 := H.2
  unfold EntV at H2
  split at H2
  · rename_i id ver hv; simp only at hv; rw [hv] at hne; cases hne
  · rename_i id ver n hv
    simp only at hv H2
    obtain ⟨hn, cs, h2, h3⟩ := H2
    have hl : cs.length = es.length * sz := by
      obtain ⟨cs', h4, h5⟩ := rowCells_ex HF.1
      rw [h2] at h4
      simp only [Option.some.injEq] at h4
      subst h4; exact h5
    subst hv
    refine ⟨.fs false es, deep_os (sz := sz) h3 (by subst hn; omega) hn.symm ?_ (all_of HF.1) hc, .inr ⟨false, rfl⟩⟩
    rw [h2, List.drop_zero, hn, ← hl, List.take_length]
  · rename_i ad hv
    simp only at hv H2
    subst hv H2
    exact ⟨_, deep_closed rfl, .inl ⟨ad, rfl, rfl⟩⟩
  · rename_i es' hv
    simp only at hv H2
    subst hv H2
    exact ⟨_, deep_closed (by simpa [closed] using hc), .inr ⟨true, rfl⟩⟩
  · rename_i id ver hv; simp only at hv; rw [hv] at hne; cases hne
  · exact H2.elim

/-! With Lean's values -/
theorem All2.app {α : Type} {R : α → PV → Prop} : ∀ {l k : List α} {es fs : List PV}, All2 R l es → All2 R k fs → All2 R (l ++ k) (es ++ fs)
  | [], _, [], _, _, h => h
  | [], _, _ :: _, _, h, _ => by simp [All2] at h
  | _ :: _, _, [], _, h, _ => by simp [All2] at h
  | _ :: _, _, _ :: _, _, h, k => ⟨h.1, All2.app h.2 k⟩
theorem All2.set {α : Type} {R : α → PV → Prop} : ∀ {l : List α} {es : List PV} {i : Nat} {a : α} {v : PV}, All2 R l es → R a v → All2 R (l.set i a) (es.set i v)
  | [], [], _, _, _, _, _ => trivial
  | [], _ :: _, _, _, _, h, _ => by simp [All2] at h
  | _ :: _, [], _, _, _, h, _ => by simp [All2] at h
  | _ :: _, _ :: _, 0, _, _, h, hr => ⟨hr, h.2⟩
  | _ :: _, _ :: _, i + 1, _, _, h, hr => ⟨h.1, All2.set h.2 hr⟩
theorem All2.rep {α : Type} {R : α → PV → Prop} {a : α} {v : PV} (h : R a v) : ∀ n, All2 R (List.replicate n a) (List.replicate n v)
  | 0 => trivial
  | n + 1 => ⟨h, All2.rep h n⟩
theorem All2.cnt {α : Type} {t : TR α} : ∀ {l : List α} {es : List PV}, All2 t.R l es → ∀ x ∈ es, Pb.cnt x = some t.sz
  | [], [], _, x, hx => by simp at hx
  | [], _ :: _, h, _, _ => by simp [All2] at h
  | _ :: _, [], h, _, _ => by simp [All2] at h
  | _ :: _, _ :: _, h, x, hx => by
    rcases List.mem_cons.1 hx with rfl | hx
    · exact t.cnt h.1
    · exact All2.cnt h.2 x hx
theorem All2.clo {α : Type} {t : TR α} {l : List α} {es : List PV} (h : All2 t.R l es) : closedL es = true := h.closed fun a e he => t.clo he
theorem src_of {α : Type} {t : TR α} {l : List α} {x : PV} (hx : (tSl t).R l x) : ∃ news, Src h t.sz x news ∧ All2 t.R l news := by
  obtain ⟨⟨es, h1, h2⟩, _⟩ := hx
  exact ⟨es, src_sl h1 h2.cnt, h2⟩
theorem set_lt {α : Type} [Inhabited α] (l : List α) (i : Int) (a : α) (h0 : 0 ≤ i) : l.set i.toNat a = l.set i.toNat a := rfl
theorem elem_at {α : Type} [Inhabited α] {R : α → PV → Prop} {l : List α} {es : List PV} {i : Int} (h : All2 R l es) (h0 : 0 ≤ i) (h1 : i < l.length) : ∃ x, es[i.toNat]? = some x ∧ R (ix l i) x := by
  obtain ⟨e, h2, h3⟩ := h.get (k := i.toNat) (by omega)
  exact ⟨e, h2, by rw [ix_lt h0 h1]; exact h3⟩
theorem own_sl {α : Type} {t : TR α} {v : PV} {es : List PV} {l : List α} (M : Mem h L) (hk : L[k]? = some ⟨v, ty, sz, es⟩) (hne : isL v = true) (hl : All2 t.R l es) (hb : l.length ≤ 9223372036854775807) : ∃ r, Deep P h v r ∧ (tSl t).R l r := by
  obtain ⟨r, h1, h2⟩ := mem_deep (P := P) M hk hne hl.clo
  exact ⟨r, h1, ⟨es, h2, hl⟩, hb⟩
theorem fits_of {m b : Nat} (h1 : m ≤ 4611686018427387904) (h2 : m * b ≤ 140737488355328) : fits m b = true := by simp [fits, h1, h2]

/-! Maps -/
theorem mem_map (M : Mem h L) (ty : TypeId) : Mem ⟨h.nv + 1, h.bl ++ [.mp h.nv []]⟩ (⟨.om (hlen h) h.nv, ty, 2, []⟩ :: L) :=
  M.new ⟨fun x hx => by simp at hx, [], rfl, by simp [blk, hlen]⟩ (fun i hi => by simp [idOf] at hi; omega) fun i hi => by
    simp only [blk]; exact List.getElem?_append_left hi
def tKV {α : Type} (t : TR α) : TR (Int × α) := ⟨fun p v => ∃ w, v = .agg [vi p.1, w] ∧ t.R p.2 w, 2, true, fun h => by obtain ⟨w, rfl, _⟩ := h; rfl, fun h => by obtain ⟨w, rfl, _⟩ := h; rfl, fun h => by obtain ⟨w, rfl, h⟩ := h; simp [closed, closedL, t.clo h]⟩
def mget {α : Type} (l : List (Int × α)) (k : Int) : Option α := match l with
  | [] => none
  | p :: r => if p.1 = k then some p.2 else mget r k
def mput {α : Type} (l : List (Int × α)) (k : Int) (v : α) : List (Int × α) := match l with
  | [] => [(k, v)]
  | p :: r => if p.1 = k then (k, v) :: r else p :: mput r k v
theorem kv_keys {α : Type} {t : TR α} : ∀ {l : List (Int × α)} {ms : List (Value × PV)}, All2 (tKV t).R l (ms.map encKV) → ms.all (fun e => kindK .i64 e.1) = true
  | [], [], _ => rfl
  | [], _ :: _, h => by simp [All2] at h
  | _ :: _, [], h => by simp [All2] at h
  | p :: l, m :: ms, h => by
    obtain ⟨⟨w, h1, h2⟩, h3⟩ := h
    simp only [encKV, PV.agg.injEq, List.cons.injEq, PV.sc.injEq, and_true] at h1
    rw [List.all_cons, kv_keys h3, h1.1]; rfl
theorem kv_get {α : Type} {t : TR α} (k : Int) : ∀ {l : List (Int × α)} {ms : List (Value × PV)}, All2 (tKV t).R l (ms.map encKV) → (mget l k = none ∧ getM .i64 k ms = none) ∨ ∃ a v, mget l k = some a ∧ getM .i64 k ms = some v ∧ t.R a v
  | [], [], _ => .inl ⟨rfl, rfl⟩
  | [], _ :: _, h => by simp [All2] at h
  | _ :: _, [], h => by simp [All2] at h
  | p :: l, m :: ms, h => by
    obtain ⟨⟨w, h1, h2⟩, h3⟩ := h
    simp only [encKV, PV.agg.injEq, List.cons.injEq, PV.sc.injEq, and_true] at h1
    simp only [mget, getM, h1.1, isK]
    by_cases e : p.1 = k
    · refine .inr ⟨p.2, w, by simp [e], by simp [e, h1.2], h2⟩
    · simp only [e, if_false]
      have : (p.1 == k) = false := by simpa using e
      simp only [this, Bool.and_false, cond_false]
      exact kv_get k h3
theorem kv_put {α : Type} {t : TR α} (k : Int) {a : α} {v : PV} (hv : t.R a v) : ∀ {l : List (Int × α)} {ms : List (Value × PV)}, All2 (tKV t).R l (ms.map encKV) → All2 (tKV t).R (mput l k a) ((putM .i64 k v ms).map encKV)
  | [], [], _ => ⟨⟨v, rfl, hv⟩, trivial⟩
  | [], _ :: _, h => by simp [All2] at h
  | _ :: _, [], h => by simp [All2] at h
  | p :: l, m :: ms, h => by
    obtain ⟨h0, h3⟩ := h
    have h0' := h0
    obtain ⟨w, h1, h2⟩ := h0'
    simp only [encKV, PV.agg.injEq, List.cons.injEq, PV.sc.injEq, and_true] at h1
    simp only [mput, putM, h1.1, isK]
    by_cases e : p.1 = k
    · simp only [e, beq_self_eq_true, Bool.and_self, cond_true, if_true]
      exact ⟨⟨v, rfl, hv⟩, h3⟩
    · have : (p.1 == k) = false := by simpa using e
      simp only [e, if_false, this, Bool.and_false, cond_false]
      exact ⟨h0, kv_put k hv h3⟩
theorem kv_sz {α : Type} {t : TR α} {l : List (Int × α)} {es : List PV} (h : All2 (tKV t).R l es) : ∀ x ∈ es, cnt x = some 2 := h.cnt
theorem mem_look {α : Type} {t : TR α} {id ver : Nat} {es : List PV} {l : List (Int × α)} {zero : α} {z : Value} (a : Int) (ok : Bool) (M : Mem h L) (hk : L[k]? = some ⟨.om id ver, ty, 2, es⟩) (hl : All2 (tKV t).R l es) (hz : t.R zero (.ofConst z)) :
    ∃ v, lookM h z ok (.om id ver) (vi a) = some (bif ok then .tup [v, vb (mget l a).isSome] else v, h) ∧ t.R ((mget l a).getD zero) v := by
  obtain ⟨h1, ms, rfl, h3⟩ := M.atF hk
  have hall := kv_keys hl
  simp only [blk] at h3
  rcases kv_get a hl with ⟨h4, h5⟩ | ⟨b, v, h4, h5, h6⟩
  · exact ⟨.ofConst z, by simp only [lookM, h3]; rw [if_pos ⟨trivial, hall⟩, h4, h5]; rfl, by rw [h4]; exact hz⟩
  · exact ⟨v, by simp only [lookM, h3]; rw [if_pos ⟨trivial, hall⟩, h4, h5]; rfl, by rw [h4]; exact h6⟩
theorem mem_upd {α : Type} {t : TR α} {id ver : Nat} {es : List PV} {l : List (Int × α)} {b : α} {v : PV} (a : Int) (M : Mem h L) (hk : L[k]? = some ⟨.om id ver, ty, 2, es⟩) (hl : All2 (tKV t).R l es) (hv : t.R b v) :
    ∃ h' es', updM h (.om id ver) (vi a) v = some (.tup [], h') ∧ Mem h' (L.set k ⟨.om id ver, ty, 2, es'⟩) ∧ All2 (tKV t).R (mput l a b) es' := by
  obtain ⟨h1, ms, rfl, h3⟩ := M.atF hk
  have hall := kv_keys hl
  have h3' := h3
  simp only [blk] at h3'
  have hp := kv_put a hv hl
  refine ⟨hput h id (.mp ver (putM .i64 a v ms)), (putM .i64 a v ms).map encKV, by simp only [updM, h3']; rw [if_pos ⟨trivial, hall⟩]; rfl, M.upd hk ⟨hp.cnt, _, rfl, by simp [blk_lt h3]⟩ (fun i hi => .inl hi) fun i hi hne => ?_, hp⟩
  exact blk_put_ne _ _ _ _ fun e => hne (by simp [idOf, e])
end
end Go.Pb
