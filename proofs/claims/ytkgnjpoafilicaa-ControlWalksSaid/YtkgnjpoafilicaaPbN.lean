/-
  Plain library, part 30: what the printed proofs lean on besides.
-/
import Derived.Test.YtkgnjpoafilicaaPbM
set_option linter.unusedVariables false
set_option linter.unusedSimpArgs false
namespace Go.Pb
open Go Go.RowKit

section
variable {P : Program} {S : List Fr} {Q : Post} {E E0 : TEnv} {h h' : Heap} {op : AOp} {hf : Bool} {v : PV} {r l : List AOper} {d t : Nat} {f : Operand} {args : List Operand} {w b : Bool}
theorem sub_refl (E : TEnv) : SubE E E := fun _ _ e => e
theorem sub_skip (hd : look d E0 = none) (s : SubE E E0) : SubE ((d, v) :: E) E0 := by
  intro t u e
  simp only [look]
  by_cases ht : t = d
  · subst ht; rw [hd] at e; cases e
  · rw [beq_ne ht, cond_false]; exact s t u e

theorem rd_yes (hg : look t E = some (vb b)) (hb : b = w) (H : OV P op hf E h v) (k : RD P r S Q ((d, v) :: E) h) : RD P (⟨some d, op, some (t, w), hf⟩ :: r) S Q E h := fun T hT => by
  subst hb
  rw [s_guard, hT t _ hg, gF_b, show (b == b) = true by simp, g_true]
  exact H.opd hT (k _ (hT.put d v))
theorem rd_yown (hg : look t E = some (vb b)) (hb : b = w) (H : LV P op E h v h') (k : RD P r S Q ((d, v) :: E) h') : RD P (⟨some d, op, some (t, w), hf⟩ :: r) S Q E h := fun T hT => by
  subst hb
  rw [s_guard, hT t _ hg, gF_b, show (b == b) = true by simp, g_true]
  exact H.opd hT (k _ (hT.put d v))
theorem rd_yown0 (hg : look t E = some (vb b)) (hb : b = w) (H : LV P op E h v h') (k : RD P r S Q E h') : RD P (⟨none, op, some (t, w), hf⟩ :: r) S Q E h := fun T hT => by
  subst hb
  rw [s_guard, hT t _ hg, gF_b, show (b == b) = true by simp, g_true]
  exact H.opd hT (k _ hT)
theorem rd_ycall (hg : look t E = some (vb b)) (hb : b = w) (H : CV P f args hf E h v) (k : RD P r S Q ((d, v) :: E) h) : RD P (⟨some d, .call f args, some (t, w), hf⟩ :: r) S Q E h := fun T hT => by
  subst hb
  rw [s_guard, hT t _ hg, gF_b, show (b == b) = true by simp, g_true]
  exact H.opd hT (k _ (hT.put d v))
theorem rd_skip (hg : look t E = some (vb b)) (hb : b = !w) (k : RD P r S Q ((d, .tup []) :: E) h) : RD P (⟨some d, op, some (t, w), hf⟩ :: r) S Q E h := fun T hT => by
  subst hb
  rw [s_guard, hT t _ hg, gF_b, show ((!w) == w) = false by cases w <;> rfl, g_false]
  exact k _ (hT.put d _)
theorem rd_skipU (hg : look t E = some (.tup [])) (k : RD P r S Q ((d, .tup []) :: E) h) : RD P (⟨some d, op, some (t, w), hf⟩ :: r) S Q E h := fun T hT => by
  rw [s_guard, hT t _ hg, gF_u, g_false]
  exact k _ (hT.put d _)
theorem rd_cut {d : Nat} {v : PV} (H : ∀ (S : List Fr) (Q : Post) (r : List AOper), RD P r S Q ((d, v) :: E) h → RD P (l ++ r) S Q E h) (k : RD P r S Q ((d, v) :: E) h) : RD P (l ++ r) S Q E h := H S Q r k
theorem rc_join {c b : AC} {F : AC → List Fr → Post → Prop} (h1 : F b S Q) (h2 : F b S Q → RC P c (.seq b :: S) Q E h) : RC P c (.seq b :: S) Q E h := h2 h1

theorem dl_nil : DeepL P h [] [] := trivial
theorem dl_cons {v d : PV} {vs ds : List PV} (a : Deep P h v d) (b : DeepL P h vs ds) : DeepL P h (v :: vs) (d :: ds) := ⟨a, b⟩
inductive ResV (E : TEnv) (h : Heap) : List (Tmp × Option (Nat × Bool)) → List PV → Prop
  | nil : ResV E h [] []
  | tmp {t v rs vs} (e : look t E = some v) (k : ResV E h rs vs) : ResV E h ((t, none) :: rs) (v :: vs)
  | cell {t a sz agg v rs vs} (e : look t E = some a) (l : loadR h sz agg a = some v) (k : ResV E h rs vs) : ResV E h ((t, some (sz, agg)) :: rs) (v :: vs)
theorem ResV.ok {T : Nat → PV} (hT : Ag E T) {rs : List (Tmp × Option (Nat × Bool))} {vs : List PV} (H : ResV E h rs vs) : resV P T h rs = some vs := by
  induction H with
  | nil => rfl
  | tmp e k ih => simp [resV, ih, hT _ _ e]
  | cell e l k ih =>
    rw [q_cell, hT _ _ e, l, ih]; rfl
theorem rc_retV {rs : List (Tmp × Option (Nat × Bool))} {R : PV → Prop} {vs : List PV} {r : PV} (e : ResV E h rs vs) (hd : Deep P h (retV vs) r) (hr : R r) : RC P .ret S (QR P rs R) E h := fun T hT => by
  rw [x_ret]
  exact ⟨vs, e.ok hT, r, hd, hr⟩
theorem pn_endV {rs : List (Tmp × Option (Nat × Bool))} {R : PV → Prop} {vs : List PV} {r : PV} (e : ResV E h rs vs) (hd : Deep P h (retV vs) r) (hr : R r) : PN P [] (QR P rs R) E h := fun T hT => by
  rw [n_nil]
  exact ⟨vs, e.ok hT, r, hd, hr⟩

theorem mk1 {c : PV} (h : c.isAgg = false) : mkV false [c] = some c := by simp [mkV, h]
theorem cells_one {v : PV} (h1 : cnt v = some 1) (h2 : v.isAgg = false) : v.cellsOf = some [v] := by
  cases v <;> first | rfl | cases h1 | cases h2
theorem ov_allocv {t : TypeId} {z : Value} {n : Nat} {x : PV} (hz : PV.ofConst z = x) (hc : cnt x = some n) : OV P (.alloc false t z) hf E h (.fp x) := by subst hz; exact ov_alloc hc
theorem sl_all2 {α : Type} {t : TR α} {l : List α} {es : List PV} {b : Bool} (H : (tSl t).R l (.fs b es)) : All2 t.R l es := by
  obtain ⟨⟨es', h1, h2⟩, _⟩ := H
  rcases h1 with ⟨ad, h3, _⟩ | ⟨tt, h3⟩
  · cases h3
  · cases h3; exact h2
theorem All2.length_eq {α : Type} {R : α → PV → Prop} {l : List α} {es : List PV} (h : All2 R l es) : es.length = l.length := h.length
theorem pick_o {b q : Bool} : pickR (vb b) (vb true) (vb q) = some (vb (b || q)) := by cases b <;> rfl
theorem pick_a {b q : Bool} : pickR (vb b) (vb q) (vb false) = some (vb (b && q)) := by cases b <;> rfl
theorem i_neg {a : Int} : unR .neg P (vi a) = some (vi (wr (0 - a))) := by simp [unR, toV, Op.unary, Op.intArith, pureRun, pure, Sem.instMonad, wr]
theorem cv_tfn {α β : Type} {ta : TR α} {tb : TR β} {g : α → β} {a : α} {va fv : PV} (ef : evE E f = some fv) (rf : (tFn P ta tb).R g fv) (ea : evL E args = some [va]) (ra : ta.R a va) : ∃ vr, CV P f args hf E h vr ∧ tb.R (g a) vr := by
  obtain ⟨id, first, cap, rfl, h1, h2, h3⟩ := rf
  obtain ⟨vr, h4, h5⟩ := h3 a va ra
  exact ⟨vr, cv_clo ef ea (by rw [closedL_app, closedL_app, h1, h2]; simp [closedL, ta.clo ra]) h4, h5⟩
theorem cv_lend {g : FuncId} {az0 ds : List PV} (ef : evE E f = some (.fn (.func g) [] [])) (ea : evL E args = some az0) (hd : DeepL P (seen hf h) az0 ds) (hfn : FnR P g ds v) (hv : flat v = true) : CV P f args hf E h v := fun T hT => by
  refine ⟨g, az0, ?_, .inr ⟨ds, hd, hfn, .inl hv⟩⟩
  rw [evE_ok hT ef, evL_ok hT ea, callee_fn]
  simp
theorem own_len {L : List Ent} {k : Nat} {ty sz : Nat} {es : List PV} {α : Type} {R : α → PV → Prop} {ls : List α} (M : Mem h L) (hk : L[k]? = some ⟨v, ty, sz, es⟩) {t e' : TypeId} (ht : P.underlying t = some (.slice e')) (hne : isL v = true) (hl : All2 R ls es) (ty' : TypeId) : biF P .len [t].toArray ty' [v] = some (vi ls.length) := by
  have := ent_len (P := P) (M.at hk) ht hne ty'
  rw [this, hl.length]
end

/-! Own memory, carried out -/
section
variable {P : Program} {S : List Fr} {Q : Post} {E : TEnv} {h : Heap} {L : List Ent} {hf : Bool} {r : List AOper} {d k : Nat} {ty : TypeId} {sz : Nat} {o o' : Operand}
theorem rd_allocO {z : Value} {n : Nat} {t : TypeId} {x : PV} (M : Mem h L) (hz : PV.ofConst z = x) (hx : cnt x = some n) (K : ∀ id ver h', Mem h' (⟨.op id ver 0, t, n, [x]⟩ :: L) → RD P r S Q ((d, .op id ver 0) :: E) h') : RD P (⟨some d, .alloc true t z, none, hf⟩ :: r) S Q E h := by
  obtain ⟨id, ver, h', h1, h2⟩ := lv_alloc (P := P) (E := E) (t := t) M hz hx
  exact rd_own h1 (K _ _ _ h2)
theorem rd_boxO {x : PV} {n : Nat} {t : TypeId} (M : Mem h L) (ex : evE E o = some x) (hx : cnt x = some n) (K : ∀ id ver h', Mem h' (⟨.op id ver 0, t, n, [x]⟩ :: L) → RD P r S Q ((d, .op id ver 0) :: E) h') : RD P (⟨some d, .box true t o, none, hf⟩ :: r) S Q E h := by
  obtain ⟨id, ver, h', h1, h2⟩ := lv_box (P := P) (E := E) (t := t) M ex hx
  exact rd_own h1 (K _ _ _ h2)
theorem rd_storeO {id ver : Nat} {x v : PV} (M : Mem h L) (eo : evE E o = some (.op id ver 0)) (ev' : evE E o' = some v) (hk : L[k]? = some ⟨.op id ver 0, ty, sz, [x]⟩) (hv : cnt v = some sz) (K : ∀ h', Mem h' (L.set k ⟨.op id ver 0, ty, sz, [v]⟩) → RD P r S Q E h') : RD P (⟨none, .store sz o o', none, hf⟩ :: r) S Q E h := by
  obtain ⟨h', h1, h2⟩ := lv_store (P := P) M eo ev' hk hv
  exact rd_own0 h1 (K _ h2)
theorem rd_storeF {id ver off n : Nat} {cs ds : List PV} {v : PV} (M : Mem h L) (eo : evE E o = some (.op id ver (0 + off))) (ev' : evE E o' = some v) (hk : L[k]? = some ⟨.op id ver 0, ty, sz, [.agg cs]⟩) (hv : v.cellsOf = some ds) (hn : ds.length = n) (hl : off + ds.length ≤ cs.length)
    (K : ∀ h', Mem h' (L.set k ⟨.op id ver 0, ty, sz, [.agg (spl cs off ds)]⟩) → RD P r S Q E h') : RD P (⟨none, .store n o o', none, hf⟩ :: r) S Q E h := by
  obtain ⟨h', h1, h2⟩ := lv_storef (P := P) M eo ev' hk hv hn hl
  exact rd_own0 h1 (K _ h2)
theorem rd_setO {id ver n i : Nat} {es : List PV} {v : PV} (M : Mem h L) (eo : evE E o = some (.op id ver (0 + i * sz))) (ev' : evE E o' = some v) (hk : L[k]? = some ⟨.os id ver 0 n, ty, sz, es⟩) (hi : i < es.length) (hv : cnt v = some sz)
    (K : ∀ h', Mem h' (L.set k ⟨.os id ver 0 n, ty, sz, es.set i v⟩) → RD P r S Q E h') : RD P (⟨none, .store sz o o', none, hf⟩ :: r) S Q E h := by
  obtain ⟨h', h1, h2⟩ := lv_set (P := P) M eo ev' hk hi hv
  exact rd_own0 h1 (K _ h2)
theorem rd_makeO {z : Value} {zs : List PV} {zz : PV} {b n : Nat} {kk kk' : IntKind} (M : Mem h L) (e1 : evE E o = some (.sc (.int kk (n : Int)))) (e2 : evE E o' = some (.sc (.int kk' (n : Int)))) (ez : z.cells.toList.map PV.sc = zs) (hz : zz.cellsOf = some zs) (hc : cnt zz = some sz) (hf' : fits n b = true)
    (K : ∀ id ver h', Mem h' (⟨.os id ver 0 n, ty, sz, List.replicate n zz⟩ :: L) → RD P r S Q ((d, .os id ver 0 n) :: E) h') : RD P (⟨some d, .mkSlice ty sz b z o o', none, hf⟩ :: r) S Q E h := by
  obtain ⟨id, ver, h', h1, h2⟩ := lv_make (P := P) (ty := ty) M e1 e2 ez hz hc hf'
  exact rd_own h1 (K _ _ _ h2)
theorem rd_appO {t : TypeId} {v x : PV} {es news : List PV} {b : Nat} (M : Mem h L) (eo : evE E o = some v) (ex : evE E o' = some x) (hk : L[k]? = some ⟨v, ty, sz, es⟩) (hne : isL v = true) (hx : Src h sz x news) (hf' : fits (es.length + news.length) b = true)
    (K : ∀ v' h', isL v' = true → Mem h' (L.set k ⟨v', ty, sz, es ++ news⟩) → RD P r S Q ((d, v') :: E) h') : RD P (⟨some d, .append t ty sz b o o', none, hf⟩ :: r) S Q E h := by
  obtain ⟨v', h', h1, h2, h3⟩ := lv_append (P := P) (t := t) M eo ex hk hne hx hf'
  exact rd_own h1 (K _ _ h2 h3)
/-- Empty, or memory of its own: so that its parts may be written. -/
def Wri (v : PV) (es : List PV) : Prop := es = [] ∨ ∃ id ver n, v = .os id ver 0 n
theorem appF_os {e : TypeId} {b m : Nat} {news : List PV} {id ver n : Nat} {v' : PV} {h' : Heap} (hq : appF h e sz b m news (.os id ver 0 n) = some (v', h')) : ∃ id ver n, v' = .os id ver 0 n := by
  unfold appF at hq
  split at hq
  · cases ‹PV.os _ _ _ _ = _›
  · cases ‹PV.os _ _ _ _ = _›
  · rename_i id1 ver1 n1 heq
    split at hq
    · simp only [Option.some.injEq, Prod.mk.injEq] at hq; exact ⟨_, _, _, hq.1.symm⟩
    · split at hq
      · split at hq
        · simp only [Option.some.injEq, Prod.mk.injEq] at hq; exact ⟨_, _, _, hq.1.symm⟩
        · cases hq
      · cases hq
  · cases hq
theorem app_wri {v x v' : PV} {es news : List PV} {b : Nat} {h' : Heap} (hw : Wri v es) (H : EntV h ty es v) (hne : isL v = true) (hx : Src h sz x news) (hq : appendR h ty sz b v x = some (v', h')) : Wri v' (es ++ news) := by
  obtain ⟨nc, hs1, hs2, hs3⟩ := hx
  simp only [appendR, hs1] at hq
  rcases hw with rfl | ⟨id, ver, n, rfl⟩
  · by_cases h0 : news.length = 0
    · left; rw [List.eq_nil_of_length_eq_zero h0]; rfl
    · right
      unfold EntV at H
      split at H
      · cases hne
      · exact appF_os hq
      · simp only [appF, h0, if_false] at hq
        split at hq
        · simp only [Option.some.injEq, Prod.mk.injEq] at hq; exact ⟨_, _, _, hq.1.symm⟩
        · cases hq
      · simp only [appF, h0, if_false] at hq
        split at hq
        · simp only [Option.map_eq_some_iff, Prod.mk.injEq] at hq
          obtain ⟨_, _, h1, _⟩ := hq
          exact ⟨_, _, _, h1.symm⟩
        · cases hq
      · cases hne
      · exact H.elim
  · right; exact appF_os hq
theorem rd_appW {t : TypeId} {v x : PV} {es news : List PV} {b : Nat} (M : Mem h L) (eo : evE E o = some v) (ex : evE E o' = some x) (hk : L[k]? = some ⟨v, ty, sz, es⟩) (hne : isL v = true) (hw : Wri v es) (hx : Src h sz x news) (hf' : fits (es.length + news.length) b = true)
    (K : ∀ v' h', isL v' = true → Wri v' (es ++ news) → Mem h' (L.set k ⟨v', ty, sz, es ++ news⟩) → RD P r S Q ((d, v') :: E) h') : RD P (⟨some d, .append t ty sz b o o', none, hf⟩ :: r) S Q E h := by
  obtain ⟨v', h', h1, h2, h3⟩ := mem_append M hk hne hx hf'
  exact rd_own ⟨rfl, fun T hT => by show appendR h ty sz b (ev T o) (ev T o') = _; rw [evE_ok hT eo, evE_ok hT ex, h1]⟩ (K _ _ h2 (app_wri hw (M.atF hk).2 hne hx h1) h3)
theorem mem_osn {id ver n : Nat} {es : List PV} (M : Mem h L) (hk : L[k]? = some ⟨.os id ver 0 n, ty, sz, es⟩) : n = es.length := (M.atF hk).2.1
theorem wri_os {α : Type} {R : α → PV → Prop} {l : List α} {v : PV} {es : List PV} {i : Int} (hw : Wri v es) (hl : All2 R l es) (h0 : 0 ≤ i) (h1 : i < l.length) : ∃ id ver n, v = .os id ver 0 n := by
  rcases hw with rfl | h
  · have := hl.length; simp at this; omega
  · exact h
theorem rd_callF {α β : Type} {ta : TR α} {tb : TR β} {g : α → β} {a : α} {va fv : PV} {f : Operand} {args : List Operand} (ef : evE E f = some fv) (rf : (tFn P ta tb).R g fv) (ea : evL E args = some [va]) (ra : ta.R a va) (K : ∀ vr, tb.R (g a) vr → RD P r S Q ((d, vr) :: E) h) : RD P (⟨some d, .call f args, none, hf⟩ :: r) S Q E h := by
  obtain ⟨vr, h1, h2⟩ := cv_tfn (h := h) (hf := hf) ef rf ea ra
  exact rd_call h1 (K _ h2)
theorem rd_ycallF {α β : Type} {ta : TR α} {tb : TR β} {g : α → β} {a : α} {va fv : PV} {f : Operand} {args : List Operand} {t : Nat} {b w : Bool} (hg : look t E = some (vb b)) (hb : b = w) (ef : evE E f = some fv) (rf : (tFn P ta tb).R g fv) (ea : evL E args = some [va]) (ra : ta.R a va) (K : ∀ vr, tb.R (g a) vr → RD P r S Q ((d, vr) :: E) h) : RD P (⟨some d, .call f args, some (t, w), hf⟩ :: r) S Q E h := by
  obtain ⟨vr, h1, h2⟩ := cv_tfn (h := h) (hf := hf) ef rf ea ra
  exact rd_ycall hg hb h1 (K _ h2)
theorem rd_mapO {t : TypeId} (M : Mem h L) (K : ∀ id ver h', Mem h' (⟨.om id ver, t, 2, []⟩ :: L) → RD P r S Q ((d, .om id ver) :: E) h') : RD P (⟨some d, .mkMap t, none, hf⟩ :: r) S Q E h :=
  rd_own (h' := ⟨h.nv + 1, h.bl ++ [.mp h.nv []]⟩) ⟨rfl, fun T hT => rfl⟩ (K _ _ _ (mem_map M t))
theorem rd_lookO {α : Type} {t : TR α} {id ver : Nat} {es : List PV} {l : List (Int × α)} {zero : α} {z : Value} {a : Int} {tm tk te : TypeId} (M : Mem h L) (ex : evE E o = some (.om id ver)) (ei : evE E o' = some (vi a)) (hk : L[k]? = some ⟨.om id ver, ty, 2, es⟩) (hl : All2 (tKV t).R l es) (hz : t.R zero (.ofConst z))
    (K : ∀ v, t.R ((mget l a).getD zero) v → RD P r S Q ((d, v) :: E) h) : RD P (⟨some d, .lookup tm tk te z false o o', none, hf⟩ :: r) S Q E h := by
  obtain ⟨v, h1, h2⟩ := mem_look (t := t) a false M hk hl hz
  exact rd_own ⟨rfl, fun T hT => by show lookM h z false (ev T o) (ev T o') = _; rw [evE_ok hT ex, evE_ok hT ei, h1]; rfl⟩ (K v h2)
theorem rd_lookO2 {α : Type} {t : TR α} {id ver : Nat} {es : List PV} {l : List (Int × α)} {zero : α} {z : Value} {a : Int} {tm tk te : TypeId} (M : Mem h L) (ex : evE E o = some (.om id ver)) (ei : evE E o' = some (vi a)) (hk : L[k]? = some ⟨.om id ver, ty, 2, es⟩) (hl : All2 (tKV t).R l es) (hz : t.R zero (.ofConst z))
    (K : ∀ v, t.R ((mget l a).getD zero) v → RD P r S Q ((d, .tup [v, vb (mget l a).isSome]) :: E) h) : RD P (⟨some d, .lookup tm tk te z true o o', none, hf⟩ :: r) S Q E h := by
  obtain ⟨v, h1, h2⟩ := mem_look (t := t) a true M hk hl hz
  exact rd_own ⟨rfl, fun T hT => by show lookM h z true (ev T o) (ev T o') = _; rw [evE_ok hT ex, evE_ok hT ei, h1]; rfl⟩ (K v h2)
theorem rd_updO {α : Type} {t : TR α} {id ver : Nat} {es : List PV} {l : List (Int × α)} {b : α} {v : PV} {a : Int} {tm tk : TypeId} {o'' : Operand} (M : Mem h L) (ex : evE E o = some (.om id ver)) (ei : evE E o' = some (vi a)) (ev' : evE E o'' = some v) (hk : L[k]? = some ⟨.om id ver, ty, 2, es⟩) (hl : All2 (tKV t).R l es) (hv : t.R b v)
    (K : ∀ h' es', Mem h' (L.set k ⟨.om id ver, ty, 2, es'⟩) → All2 (tKV t).R (mput l a b) es' → RD P r S Q E h') : RD P (⟨none, .mapUpdate tm tk o o' o'', none, hf⟩ :: r) S Q E h := by
  obtain ⟨h', es', h1, h2, h3⟩ := mem_upd (t := t) a M hk hl hv
  exact rd_own0 ⟨rfl, fun T hT => by show updM h (ev T o) (ev T o') (ev T o'') = _; rw [evE_ok hT ex, evE_ok hT ei, evE_ok hT ev', h1]⟩ (K h' es' h2 h3)
theorem field_field {off off2 sz1 sz2 : Nat} {agg : Bool} {x w u : PV} (h1 : fieldR off sz1 true x = some w) (h2 : fieldR off2 sz2 agg w = some u) : fieldR (off + off2) sz2 agg x = some u := by
  cases x <;> simp [fieldR] at h1
  rename_i cs
  simp only [fieldOf] at h1
  split at h1
  · rename_i hle
    simp only [mkV, Option.some.injEq] at h1
    subst h1
    simp only [fieldR, fieldOf, List.length_take, List.length_drop] at h2 ⊢
    split at h2
    · rename_i hle2
      rw [if_pos (by omega)]
      rw [List.drop_take, List.take_take, List.drop_drop, Nat.min_eq_left (by omega)] at h2
      exact h2
    · cases h2
  · cases h1
end

theorem fits_len {m b : Nat} (h : fits m b = true) : m ≤ 4611686018427387904 := by simp only [fits, decide_eq_true_eq] at h; exact h.2
/-! Arrays -/
theorem rowCells_clo : ∀ {es cs : List PV}, rowCells es = some cs → closedL es = true → closedL cs = true := fun h k => by rw [rowCells_closed h, k]
def tAr (n : Nat) {α : Type} (t : TR α) : TR (List α) := ⟨fun l v => l.length = n ∧ ∃ es cs, All2 t.R l es ∧ rowCells es = some cs ∧ v = .agg cs, n * t.sz, true,
  fun h => by
    obtain ⟨h0, es, cs, h1, h2, rfl⟩ := h
    obtain ⟨cs', h3, h4⟩ := rowCells_ex h1.cnt
    rw [h2] at h3
    simp only [Option.some.injEq] at h3
    subst h3
    simp [cnt, h4, h1.length, h0],
  fun h => by obtain ⟨h0, es, cs, h1, h2, rfl⟩ := h; rfl,
  fun h => by obtain ⟨h0, es, cs, h1, h2, rfl⟩ := h; simpa [closed] using rowCells_clo h2 h1.clo⟩
theorem arr_field {n : Nat} {α : Type} {t : TR α} [Inhabited α] {l : List α} {v : PV} {i : Int} (h : (tAr n t).R l v) (h0 : 0 ≤ i) (h1 : i < n) : ∃ cs e, v = .agg cs ∧ fieldOf (i.toNat * t.sz) t.sz t.ag cs = some e ∧ t.R (ix l i) e := by
  obtain ⟨hl, es, cs, h2, h3, rfl⟩ := h
  obtain ⟨e, h4, h5⟩ := elem_at h2 h0 (by omega)
  obtain ⟨h6, h7⟩ := rowCells_get h2.cnt h3 h4
  refine ⟨cs, e, rfl, ?_, h5⟩
  simp only [fieldOf]
  rw [if_pos h6]
  have ha := t.agg h5
  generalize (cs.drop (i.toNat * t.sz)).take t.sz = ds at h7
  rw [← ha]
  cases e <;> simp [PV.cellsOf] at h7 <;> subst h7 <;> simp [mkV, PV.isAgg]
theorem arr_idx {n : Nat} {α : Type} {t : TR α} [Inhabited α] {l : List α} {v : PV} {i : Int} (h : (tAr n t).R l v) (h0 : 0 ≤ i) (h1 : i < n) : ∃ e, indexAR n t.sz t.ag v (vi i) = some e ∧ t.R (ix l i) e := by
  obtain ⟨cs, e, rfl, h2, h3⟩ := arr_field h h0 h1
  exact ⟨e, by simp [indexAR, h0, h1, h2], h3⟩
theorem arr_addr {n : Nat} {α : Type} {t : TR α} [Inhabited α] {l : List α} {v : PV} {i : Int} (h : (tAr n t).R l v) (h0 : 0 ≤ i) (h1 : i < n) : ∃ e, iaddrAR n t.sz t.ag (.fp v) (vi i) = some (.fp e) ∧ t.R (ix l i) e := by
  obtain ⟨cs, e, rfl, h2, h3⟩ := arr_field h h0 h1
  exact ⟨e, by simp [iaddrAR, h0, h1, h2], h3⟩
end Go.Pb
