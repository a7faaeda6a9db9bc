/-
  Plain library, part 16: every order, the step and the end.
-/
import Derived.Test.YtkgnjpoafilicaaPbAnyB
set_option linter.unusedVariables false
set_option linter.unusedSimpArgs false
namespace Go.Pb
open Go Go.RowKit

section
variable {P : Program} {own : List Tmp} {n : Nat} {ops : Array Oper} {al : List AOper} {ss : List Stp} {T0 : Nat → PV} {h0 : Heap} {w0 : World} {F0 : Nat → Prop} {x0 : Cx}

theorem needs_left {x y : AOper} {t : Tmp} (hd : x.dst = some t) (hl : t ∈ y.looks) : needs x y = true := by
  have : y.looks.contains t = true := by simpa using hl
  simp only [needs, hd, this, Bool.true_or, Bool.or_true]

theorem needs_right {x y : AOper} {t : Tmp} (hd : y.dst = some t) (hl : t ∈ x.looks) : needs x y = true := by
  have : x.looks.contains t = true := by simpa using hl
  simp only [needs, hd, this, Bool.or_true]

theorem needs_same {x y : AOper} {t : Tmp} (hd : x.dst = some t) (he : y.dst = some t) : needs x y = true := by
  simp only [needs, hd, he, beq_self_eq_true, Bool.or_true, Bool.true_or]

theorem needs_bar_left {x y : AOper} (h : x.op.bar = true) : needs x y = true := by simp only [needs, h, Bool.true_or]
theorem needs_bar_right {x y : AOper} (h : y.op.bar = true) (hl : (x.hf || x.op.isA) = false) : needs x y = true := by simp only [needs, h, hl, Bool.not_false, Bool.and_self, Bool.true_or, Bool.or_true]

theorem isA_kind {o : AOp} (h : o.isA = true) : o.kind = 1 := by
  unfold AOp.isA at h
  split at h
  all_goals first | rfl | cases h

/-- What a call's own blocks that an operation does not name hold, they hold behind it. -/
theorem opL_keeps {T : Nat → PV} {h h' : Heap} {ao : AOp} {r : PV} (hq : opL T h ao = some (r, h')) {id : Nat} {b : Blk} (hb : h.bl[id]? = some b)
    (hun : ∀ o ∈ ao.opers, ((∀ off, ev T o ≠ .op id b.ver off) ∧ ∀ off k, ev T o ≠ .os id b.ver off k) ∧ ev T o ≠ .om id b.ver) : h'.bl[id]? = some b := by
  have happ : ∀ t cs, (newBlk h t cs).bl[id]? = some b := fun t cs => by
    simp only [newBlk]
    rw [List.getElem?_append_left (List.getElem?_eq_some_iff.1 hb).1]
    exact hb
  by_cases hA : ao.isA = true
  · obtain ⟨t, cs, k, _, _, rfl⟩ := opA_of_opL hA hq
    exact happ t cs
  · cases ao with
    | store sz y v =>
      simp only [opL] at hq
      split at hq
      · rename_i id' ver off hv
        split at hq
        · rename_i ver' ty cs ds hb' hds
          split at hq
          · rename_i hc
            simp only [Option.some.injEq, Prod.mk.injEq] at hq
            rw [← hq.2]
            have hne : id' ≠ id := by
              rintro rfl
              rw [hb] at hb'
              simp only [Option.some.injEq] at hb'
              subst hb'
              have := (hun y (by simp [AOp.opers])).1.1 off
              simp only [Blk.ver] at this
              rw [hc.1] at this
              exact this hv
            simp only [List.getElem?_set_ne hne]
            exact hb
          · cases hq
        · cases hq
      · cases hq
    | append t e sz bytes s y =>
      simp only [opL] at hq
      split at hq
      · rename_i m news hs
        unfold appF at hq
        split at hq
        · split at hq
          · simp only [Option.some.injEq, Prod.mk.injEq] at hq; rw [← hq.2]; exact hb
          · split at hq
            · simp only [Option.some.injEq, Prod.mk.injEq] at hq; rw [← hq.2]; exact happ _ _
            · cases hq
        · split at hq
          · simp only [Option.some.injEq, Prod.mk.injEq] at hq; rw [← hq.2]; exact hb
          · split at hq
            · simp only [Option.map_eq_some_iff, Prod.mk.injEq] at hq
              obtain ⟨_, _, _, e1⟩ := hq
              rw [← e1]; exact happ _ _
            · cases hq
        · rename_i id' ver k hv
          split at hq
          · simp only [Option.some.injEq, Prod.mk.injEq] at hq; rw [← hq.2]; exact hb
          · split at hq
            · rename_i ver' ty cs hb'
              split at hq
              · rename_i hc
                simp only [Option.some.injEq, Prod.mk.injEq] at hq
                rw [← hq.2]
                have hne : id' ≠ id := by
                  rintro rfl
                  rw [hb] at hb'
                  simp only [Option.some.injEq] at hb'
                  subst hb'
                  have := (hun s (by simp [AOp.opers])).1.2 0 k
                  simp only [Blk.ver] at this
                  rw [hc.1] at this
                  exact this hv
                simp only [List.getElem?_set_ne hne]
                exact hb
              · cases hq
            · cases hq
        · cases hq
      · cases hq
    | box own t x => cases own <;> simp_all [AOp.isA, opL]
    | alloc own t x => cases own <;> simp_all [AOp.isA, opL]
    | bslice own e sz z parts => cases own <;> simp_all [AOp.isA, opL]
    | mkSlice e sz bytes z l c => simp [AOp.isA] at hA
    | mkMap t =>
      simp only [opL, Option.some.injEq, Prod.mk.injEq] at hq
      rw [← hq.2]
      simp only
      rw [List.getElem?_append_left (List.getElem?_eq_some_iff.1 hb).1]
      exact hb
    | lookup t k e z ok x i =>
      simp only [opL, lookM] at hq
      split at hq
      · split at hq
        · split at hq
          · simp only [Option.some.injEq, Prod.mk.injEq] at hq; rw [← hq.2]; exact hb
          · cases hq
        · cases hq
      · cases hq
    | mapUpdate t k m i v =>
      simp only [opL, updM] at hq
      split at hq
      · rename_i id' ver kk a hv hi
        split at hq
        · rename_i ver' es hb'
          split at hq
          · rename_i hc
            simp only [Option.some.injEq, Prod.mk.injEq] at hq
            rw [← hq.2]
            have hne : id' ≠ id := by
              rintro rfl
              rw [hb] at hb'
              simp only [Option.some.injEq] at hb'
              subst hb'
              have := (hun m (by simp [AOp.opers])).2
              simp only [Blk.ver] at this
              rw [hc.1] at this
              exact this hv
            simp only [List.getElem?_set_ne hne]
            exact hb
          · cases hq
        · cases hq
      · cases hq
    | _ => simp [opL] at hq

/-- The temporaries outside what an operation looks at do not matter to it. -/
def only (l : List Tmp) (T : Nat → PV) : Nat → PV := fun t => if l.contains t then T t else .junk

theorem VR_junk {x : Cx} {u : Value} : VR P x .junk u := by simp [VR, PV.isAgg, AsVal, VRC]

theorem Temps.only {x : Cx} {T T' : Nat → PV} {a : Act} {l : List Tmp} (hT : Temps P x n T a) (he : ∀ t ∈ l, T' t = T t) : Temps P x n (only l T') a :=
  ⟨hT.size, fun t => by
    unfold Pb.only
    split
    · rename_i hc
      rw [he t (by simpa using hc)]
      exact hT.at_ t
    · exact VR_junk, hT.defers⟩

theorem only_eq {l : List Tmp} {T : Nat → PV} {t : Tmp} (h : t ∈ l) : only l T t = T t := by
  unfold only
  rw [if_pos (by simpa using h)]

theorem madeA_sound {x : Cx} {T : Nat → PV} {a : Act} {o : Oper} {ao : AOp} {t : TypeId} {cs : List PV} {k : Option Nat} (hT : Temps P x n T a) (hc : compOp P own o.dst o.type o.op = some ao) (hq : opA T ao = some (t, cs, k)) : MadeA P a x o t cs k := by
  cases ho : o.op with
  | box t y =>
    rw [ho] at hc; simp only [compOp, Option.some.injEq] at hc; subst hc
    cases hown : (o.dst.any fun d => own.contains d) with
    | false => rw [hown] at hq; simp [opA] at hq
    | true => rw [hown] at hq; exact madeA_box hT ho hq
  | alloc t =>
    rw [ho] at hc
    simp only [compOp, Option.bind_eq_bind, Option.bind_eq_some_iff, Option.pure_def, Option.some.injEq] at hc
    obtain ⟨i, hi, z, hz, hc⟩ := hc
    subst hc
    cases hown : (o.dst.any fun d => own.contains d) with
    | false => rw [hown] at hq; simp [opA] at hq
    | true => rw [hown] at hq; exact madeA_alloc ho hi hz hq
  | buildSlice t len parts => rw [ho] at hc; exact madeA_bslice hT ho hc hq
  | makeSlice t l c => rw [ho] at hc; exact madeA_mkSlice hT ho hc hq
  | makeMap t r' =>
    rw [ho] at hc
    exfalso
    cases r' with
    | none =>
      simp only [compOp] at hc
      split at hc
      · simp only [Option.some.injEq] at hc; subst hc; simp [opA] at hq
      · cases hc
    | some v => simp [compOp] at hc
  | build t parts =>
    rw [ho] at hc
    exfalso
    simp only [compOp, Option.bind_eq_bind, Option.bind_eq_some_iff] at hc
    obtain ⟨_, _, _, _, hc⟩ := hc
    split at hc
    · simp only [Option.bind_eq_some_iff] at hc
      obtain ⟨_, _, hc⟩ := hc
      split at hc
      · simp only [Option.pure_def, Option.some.injEq] at hc; subst hc; simp [opA] at hq
      · cases hc
    · simp only [Option.bind_eq_some_iff] at hc
      obtain ⟨_, _, _, _, hc⟩ := hc
      split at hc
      · simp only [Option.pure_def, Option.some.injEq] at hc; subst hc; simp [opA] at hq
      · cases hc
    · cases hc
  | call c =>
    rw [ho] at hc
    obtain ⟨callee, args, ats⟩ := c
    exfalso
    simp only [compOp] at hc
    split at hc
    all_goals try (simp only [Option.some.injEq] at hc; subst hc; simp [opA] at hq; done)
    · repeat' (split at hc)
      all_goals first
        | (cases hc; done)
        | (simp only [Option.bind_eq_bind, Option.bind_eq_some_iff] at hc
           obtain ⟨_, _, _, _, hc⟩ := hc
           split at hc
           · simp only [Option.pure_def, Option.some.injEq] at hc; subst hc; simp [opA] at hq
           · cases hc)
    · repeat' (split at hc)
      all_goals first
        | (cases hc; done)
        | (simp only [Option.bind_eq_bind, Option.bind_eq_some_iff] at hc
           obtain ⟨_, _, hc⟩ := hc
           simp only [Option.pure_def, Option.some.injEq] at hc; subst hc; simp [opA] at hq)
  | lookup t y i ok =>
    rw [ho] at hc
    exfalso
    simp only [compOp] at hc
    split at hc
    · simp only [Option.bind_eq_bind, Option.bind_eq_some_iff, Option.pure_def, Option.some.injEq] at hc
      obtain ⟨_, _, _, _, hc⟩ := hc
      split at hc
      · simp only [Option.some.injEq] at hc; subst hc; simp [opA] at hq
      · first | (cases hc; done) | (simp only [Option.some.injEq] at hc; subst hc; simp [opA] at hq)
    · cases hc
  | _ =>
    rw [ho] at hc
    exfalso
    simp only [compOp] at hc
    repeat' (split at hc)
    all_goals first
      | (cases hc; done)
      | (simp only [Option.some.injEq] at hc; subst hc; simp [opA] at hq; done)
      | (simp only [Option.bind_eq_bind, Option.bind_eq_some_iff, Option.pure_def, Option.ite_none_left_eq_some, Option.some.injEq] at hc
         repeat (first | (obtain ⟨_, hc⟩ := (hc : ∃ _, _)) | (obtain ⟨_, hc⟩ := (hc : _ ∧ _)))
         subst hc
         simp [opA] at hq)

theorem Mid.step (X : Text P own n ops al ss T0 h0) {listed : Array Bool} {e : Nat} {a : Act} {y : Cx} (M : Mid P n ops al ss T0 h0 w0 F0 x0 listed e a y) {i : Nat} (hi : i ∈ Region.ready .any ops listed) {Q : Exit → Act → World → Prop} :
    wpOp P ops Q i (fun a' w' => ∃ e' y', y'.w = w' ∧ Mid P n ops al ss T0 h0 w0 F0 x0 (listed.setIfInBounds i true) e' a' y') a y.w := by
  obtain ⟨hun, o, ho, hall⟩ := mem_ready.1 hi
  have hisz : i < listed.size := by rw [M.size]; exact (Array.getElem?_eq_some_iff.1 ho).1
  have hil : i < al.length := by rw [X.len, ← M.size]; exact hisz
  have hnot : listed.getD i false = false := by
    have : listed.getD i true = listed.getD i false := by simp [Array.getD_eq_getD_getElem?, hisz]
    rw [← this]; exact hun
  obtain ⟨ao, hfl, hao, hco⟩ := X.get ho
  obtain ⟨hdst, hcop, hdn, hgd⟩ := compO_spec hco
  have hstep := X.run i ao hao
  have hset := getD_set hisz
  -- what must stand before i, has come
  have before : ∀ j bo, al[j]? = some bo → j < i → needs bo ao = true → listed.getD j false = true := fun j bo hj hji hn =>
    ready_before X M.down hisz ho hall (by omega) (chk_needs X.chk hj hao hji hn)
  -- what must wait for i, has not come
  have behind : ∀ j bo, al[j]? = some bo → i < j → needs ao bo = true → listed.getD j false = false := fun j bo hj hij hn => by
    cases hl : listed.getD j false with
    | false => rfl
    | true =>
      have := listed_before X M.down hl (chk_needs X.chk hao hj hij hn)
      rw [hnot] at this; cases this
  have hdstOf : ∀ j t, dstOf al j = some t → ∃ bo, al[j]? = some bo ∧ bo.dst = some t := by
    intro j t h
    simp only [dstOf, Option.bind_eq_some_iff] at h
    exact h
  have hlooks : ∀ t ∈ ao.looks, TT al ss allD T0 i t = TT al ss (fun j => listed.getD j false) T0 al.length t := by
    intro t ht
    refine (TT_at (fun j hj hd => ?_) (fun j hj hd => ?_) al.length (by omega)).symm
    · obtain ⟨bo, hb, hbd⟩ := hdstOf j t hd
      exact before j bo hb hj (needs_left hbd ht)
    · obtain ⟨bo, hb, hbd⟩ := hdstOf j t hd
      by_cases hji : j = i
      · subst hji; exact hnot
      · exact behind j bo hb (by omega) (needs_right hbd ht)
  have hput : ∀ D', (∀ j, D' j = ((listed.setIfInBounds i true).getD j false)) → TT al ss D' T0 al.length = updO (TT al ss (fun j => listed.getD j false) T0 al.length) o.dst (resOf ss i) := by
    intro D' hD'
    have hdi : dstOf al i = o.dst := by simp only [dstOf, hao, Option.bind_some, hdst]
    rw [← hdi]
    refine TT_put (D := fun j => listed.getD j false) hil hnot (fun j => by rw [hD', hset]) (fun j t hij hDj hdi' hdj => ?_)
    obtain ⟨bo, hb, hbd⟩ := hdstOf j t hdj
    have h1 := behind j bo hb hij (needs_same (by rw [← hdi', hdi, hdst]) hbd)
    rw [h1] at hDj; cases hDj
  have hTs : Temps P y n (only ao.looks (TT al ss allD T0 i)) a := M.tmp.only hlooks
  have hguard : ∀ g, guardF (TT al ss allD T0 i) ao.guard = some g → Region.wanted o (yielded ops a.tmps) = g := fun g hg =>
    wanted_of hTs hgd (by rw [guardF_congr (T' := TT al ss allD T0 i) fun t ht => only_eq ht]; exact hg)
  have hopers : ∀ z ∈ ao.op.opers, ev (only ao.looks (TT al ss allD T0 i)) z = ev (TT al ss allD T0 i) z := opers_congr fun t ht => only_eq ht
  have down' : ∀ (j : Nat) o', (listed.setIfInBounds i true).getD j false = true → ops[j]? = some o' → ∀ ed ∈ o'.after, Region.binds .any ed = true → (listed.setIfInBounds i true).getD ed.on false = true := by
    intro j o' hj ho' ed hed hb
    rw [hset] at hj ⊢
    simp only [Bool.or_eq_true] at hj
    rcases hj with hj | hj
    · rw [M.down j o' hj ho' ed hed hb]; rfl
    · have : j = i := by simpa using hj
      subst this
      rw [ho] at ho'
      simp only [Option.some.injEq] at ho'
      subst ho'
      rw [hall ed hed hb]; rfl
  unfold wpOp
  rw [ho]
  by_cases hbar : ao.op.bar = true
  · -- a stop: it is the next one
    have hisb : isBar al i = true := by simp [isBar, hao, hbar]
    have hie : i = e := by
      rcases Nat.lt_trichotomy i e with h | h | h
      · have := M.lo i h hisb; rw [hnot] at this; cases this
      · exact h
      · have hel : e < al.length := by omega
        have hget := List.getElem?_eq_getElem hel
        have hb := M.bar hel
        simp only [isBar, hget, Option.map_some, Option.getD_some] at hb
        have := before e _ hget h (needs_bar_left hb)
        rw [M.hi e (Nat.le_refl _)] at this; cases this
    subst hie
    obtain ⟨e', he1, he2, he3, he4⟩ := next_bar al (al.length - (i + 1)) (i + 1) (by omega)
    have fin : ∀ (v : Value) (y' : Cx), RelP P w0 F0 (hOf h0 ss (i + 1)) y' → Ext y y' → VR P y' (resOf ss i) v → (∀ id ver, ver < (hOf h0 ss i).nv → y.J id ver = none → y'.J id ver = none) →
        (∀ j, j < i → listed.getD j false = false → ∀ b, (hOf h0 ss (j + 1)).bl[(hOf h0 ss j).bl.length]? = some b → (hOf h0 ss (i + 1)).bl[(hOf h0 ss j).bl.length]? = some b) →
        Mid P n ops al ss T0 h0 w0 F0 x0 (listed.setIfInBounds i true) e' (a.put o.dst v) y' := by
      intro v y' R' E hv hJ hkeep
      have Ron := X.onward (j := i + 1) (k := e') he1 he2 he4 R'
      refine ⟨by simp [M.size], down', he2, he3, fun j hj hb => ?_, fun j hj => ?_, Ron, fun j hj hl id ver h1 h2 => ?_, fun j hj hl b hb => ?_, ?_, M.ext.trans E⟩
      · rw [hset]
        by_cases hji : j = i
        · subst hji; simp
        · rcases Nat.lt_or_ge j i with h | h
          · rw [M.lo j h hb]; rfl
          · have := he4 j (by omega) hj; rw [hb] at this; cases this
      · rw [hset, M.hi j (by omega), show (j == i) = false by simp; omega]; rfl
      · rw [hset] at hl
        simp only [Bool.or_eq_false_iff] at hl
        have hji : j ≠ i := by simpa using hl.2
        rcases Nat.lt_or_ge j i with h | h
        · have := X.nv (j := j + 1) (k := i) (by omega) (by omega)
          exact hJ id ver (by omega) (M.fut j h hl.1 id ver h1 h2)
        · exact R'.fresh id ver (Nat.le_trans (X.nv (by omega) (by omega)) h1)
      · rw [hset] at hl
        simp only [Bool.or_eq_false_iff] at hl
        have hji : j ≠ i := by simpa using hl.2
        rcases Nat.lt_or_ge j i with h | h
        · exact (X.grow (j := i + 1) (k := e') he1 he2 he4).1 _ _ (hkeep j h hl.1 b hb)
        · exact (X.grow (j := j + 1) (k := e') (by omega) he2 fun m h1 h2 => he4 m (by omega) h2).1 _ _ hb
      · have := (M.tmp.ext E).put (d := o.dst) hdn hv
        rw [← hput _ (fun j => rfl)] at this
        exact this
    rcases hstep with ⟨hg, hr, hh⟩ | ⟨hg, hrest⟩
    · simp only [hguard false hg, Bool.false_eq_true, if_false]
      have R' : RelP P w0 F0 (hOf h0 ss (i + 1)) y := by rw [hh]; exact M.rel
      exact ⟨e', y, rfl, fin undef y R' (Ext.refl y) (by rw [hr]; exact ⟨[], rfl, by simp [VRV]⟩) (fun _ _ _ hn => hn) fun j hj hl b hb => by rw [hh]; exact M.ent j hj hl b hb⟩
    · simp only [hguard true hg, if_true]
      refine .inl ?_
      rcases hrest with ⟨hk, _, _⟩ | ⟨hk, hq⟩ | ⟨hk, _, _⟩
      · simp [AOp.bar, hk] at hbar
      · have hq' : opL (only ao.looks (TT al ss allD T0 i)) (hOf h0 ss i) ao.op = some (resOf ss i, hOf h0 ss (i + 1)) := by rw [opL_congr hopers]; exact hq
        obtain ⟨nx, v, y', hr, hn, R', E, hv, hJ⟩ := opL_sound M.rel hTs hcop hq'
        refine wp_of_run hr hn ⟨e', y', rfl, fin v y' R' E hv hJ fun j hj hl b hb => ?_⟩
        have hb2 := M.ent j hj hl b hb
        refine opL_keeps hq' hb2 fun z hz => ?_
        -- the entry of an operation still to come bears a number that is not yet in the world
        have hver : b.ver = (hOf h0 ss j).nv ∧ (hOf h0 ss j).nv < (hOf h0 ss (j + 1)).nv := by
          have hget := List.getElem?_eq_getElem (show j < al.length by omega)
          have hnb : (al[j]'(by omega)).op.bar = false := by
            cases hbb : (al[j]'(by omega)).op.bar with
            | false => rfl
            | true =>
              have := M.lo j hj (by simp [isBar, hget, hbb])
              rw [hl] at this; cases this
          rcases (X.run j _ hget).nonbar hnb with e1 | ⟨t, cs, k, _, _, _, e1⟩
          · rw [e1] at hb
            rw [List.getElem?_eq_none (Nat.le_refl _)] at hb
            cases hb
          · rw [e1] at hb ⊢
            simp only [newBlk] at hb
            rw [List.getElem?_append_right (Nat.le_refl _)] at hb
            simp only [Nat.sub_self, List.getElem?_cons_zero, Option.some.injEq] at hb
            rw [← hb]
            exact ⟨rfl, Nat.lt_succ_self _⟩
        have hnone := M.fut j hj hl (hOf h0 ss j).bl.length (hOf h0 ss j).nv (Nat.le_refl _) hver.2
        have hvz := hTs.ev z
        refine ⟨⟨fun off he => ?_, fun off k he => ?_⟩, fun he => ?_⟩
        · rw [he] at hvz
          simp only [VR, AsVal, PV.isAgg, VRC, List.cons.injEq, and_true] at hvz
          obtain ⟨_, hjj, _⟩ := hvz
          rw [hver.1, hnone] at hjj; cases hjj
        · rw [he] at hvz
          simp only [VR, AsVal, PV.isAgg, VRC, List.cons.injEq, and_true] at hvz
          obtain ⟨_, _, hjj, _⟩ := hvz
          rw [hver.1, hnone] at hjj; cases hjj
        · rw [he] at hvz
          simp only [VR, AsVal, PV.isAgg, VRC, List.cons.injEq, and_true] at hvz
          obtain ⟨_, hjj, _⟩ := hvz
          rw [hver.1, hnone] at hjj; cases hjj
      · simp [AOp.bar, hk] at hbar
  · -- no stop: it stands before the next one
    have hbar : ao.op.bar = false := by simpa using hbar
    have hie : i < e := by
      rcases Nat.lt_or_ge i e with h | h
      · exact h
      · by_cases he : e = i
        · subst he
          have := M.bar hil
          simp [isBar, hao, hbar] at this
        · have hel : e < al.length := by omega
          have hget := List.getElem?_eq_getElem hel
          have hb := M.bar hel
          simp only [isBar, hget, Option.map_some, Option.getD_some] at hb
          have := before e _ hget (by omega) (needs_bar_left hb)
          rw [M.hi e (Nat.le_refl _)] at this; cases this
    have hnob : (ao.hf || ao.op.isA) = false → ∀ m, i ≤ m → m < e → isBar al m = false := by
      intro hlate m h1 h2
      cases hb : isBar al m with
      | false => rfl
      | true =>
        by_cases hmi : m = i
        · subst hmi; simp [isBar, hao, hbar] at hb
        · have hget := List.getElem?_eq_getElem (show m < al.length by have := M.le; omega)
          have hb' : (al[m]'(by have := M.le; omega)).op.bar = true := by simpa [isBar, hget] using hb
          have h3 := behind m _ hget (by omega) (needs_bar_right hb' hlate)
          rw [M.lo m h2 hb] at h3; cases h3
    have hg1 : ao.op.isA = false → Sub (seen ao.hf (hOf h0 ss i)) (hOf h0 ss e) := by
      intro hnA
      cases hhf : ao.hf with
      | true => intro id b hb; simp [seen] at hb
      | false => exact (X.grow (j := i) (k := e) (by omega) M.le (hnob (by rw [hhf, hnA]; rfl))).1
    have hnotA : ao.op.kind ≠ 1 → ao.op.isA = false := fun hk => by
      cases hA : ao.op.isA with
      | false => rfl
      | true => exact absurd (isA_kind hA) hk
    have fin : ∀ (v : Value) (y' : Cx), RelP P w0 F0 (hOf h0 ss e) y' → Ext y y' → VR P y' (resOf ss i) v → (∀ j, j < e → j ≠ i → listed.getD j false = false → ∀ id ver, (hOf h0 ss j).nv ≤ ver → ver < (hOf h0 ss (j + 1)).nv → y'.J id ver = none) →
        Mid P n ops al ss T0 h0 w0 F0 x0 (listed.setIfInBounds i true) e (a.put o.dst v) y' := by
      intro v y' R' E hv hfut
      refine ⟨by simp [M.size], down', M.le, M.bar, fun j hj hb => by rw [hset, M.lo j hj hb]; rfl, fun j hj => ?_, R', fun j hj hl id ver h1 h2 => ?_, fun j hj hl b hb => ?_, ?_, M.ext.trans E⟩
      · rw [hset, M.hi j hj, show (j == i) = false by simp; omega]; rfl
      · rw [hset] at hl
        simp only [Bool.or_eq_false_iff] at hl
        exact hfut j hj (by simpa using hl.2) hl.1 id ver h1 h2
      · rw [hset] at hl
        simp only [Bool.or_eq_false_iff] at hl
        exact M.ent j hj hl.1 b hb
      · have := (M.tmp.ext E).put (d := o.dst) hdn hv
        rw [← hput _ (fun j => rfl)] at this
        exact this
    rcases hstep with ⟨hg, hr, hh⟩ | ⟨hg, hrest⟩
    · simp only [hguard false hg, Bool.false_eq_true, if_false]
      exact ⟨e, y, rfl, fin undef y M.rel (Ext.refl y) (by rw [hr]; exact ⟨[], rfl, by simp [VRV]⟩) fun j hj _ hl => M.fut j hj hl⟩
    · simp only [hguard true hg, if_true]
      refine .inl ?_
      have quiet : ∀ (v : Value) (z : Cx), Grow y z → VR P z (resOf ss i) v → ∃ e' y', y'.w = z.w ∧ Mid P n ops al ss T0 h0 w0 F0 x0 (listed.setIfInBounds i true) e' (a.put o.dst v) y' := fun v z g hv =>
        ⟨e, z, rfl, fin v z (M.rel.grow g) (M.rel.ext_of_grow g) hv fun j hj _ hl id ver h1 h2 => by rw [g.J]; exact M.fut j hj hl id ver h1 h2⟩
      rcases hrest with ⟨hk, hq, hh⟩ | ⟨hk, hq⟩ | ⟨hk, hh, f, args, g, az0, hop, hcal, hD⟩
      · have hq' : opQ P (only ao.looks (TT al ss allD T0 i)) (hOf h0 ss e) ao.op = some (resOf ss i) := by
          rw [opQ_congr hopers]; exact opQ_mono (hg1 (hnotA (by rw [hk]; simp))) hq
        obtain ⟨v, z, hr, gr, hv⟩ := opQ_sound M.rel hTs hcop hq'
        exact wp_of_run hr (.inl rfl) (quiet v z gr hv)
      · -- a new block of the call's own
        have hA : ao.op.isA = true := by simpa [AOp.bar, hk] using hbar
        obtain ⟨t, cs, k, ha, hres, hh⟩ := opA_of_opL hA hq
        have ha' : opA (only ao.looks (TT al ss allD T0 i)) ao.op = some (t, cs, k) := by rw [opA_congr hopers]; exact ha
        obtain ⟨us, v, hr, hl, hv, hmk⟩ := madeA_sound hTs hcop ha'
        have hnv : (hOf h0 ss (i + 1)).nv = (hOf h0 ss i).nv + 1 := by rw [hh]; rfl
        have hle := X.nv (j := i + 1) (k := e) (by omega) M.le
        have hent : (hOf h0 ss e).bl[(hOf h0 ss i).bl.length]? = some (.cells (hOf h0 ss i).nv t true cs) := M.ent i hie hnot _ (by rw [hh]; simp [newBlk])
        have hnone := M.fut i hie hnot (hOf h0 ss i).bl.length (hOf h0 ss i).nv (Nat.le_refl _) (by omega)
        obtain ⟨R', E⟩ := M.rel.newOwnAt (t := t) (cs := cs) (us := us) (bl' := (hOf h0 ss e).bl) (id := (hOf h0 ss i).bl.length) (vr := (hOf h0 ss i).nv) (nv' := (hOf h0 ss e).nv) hl hv hnone (by omega) (Nat.le_refl _) (fun k' blk hk' => by
          by_cases hkk : k' = (hOf h0 ss i).bl.length
          · subst hkk
            rw [hent] at hk'
            simp only [Option.some.injEq] at hk'
            exact .inl ⟨rfl, hk'.symm⟩
          · exact .inr ⟨hkk, hk'⟩)
        refine wp_of_run hr (.inl rfl) ⟨e, _, rfl, fin v _ R' E (by rw [hres]; exact hmk _ _ _ updJ_new (heap_alloc_new _ _)) fun j hj hji hl id ver h1 h2 => ?_⟩
        show updJ y.J _ _ _ id ver = none
        unfold updJ
        rw [if_neg]
        · exact M.fut j hj hl id ver h1 h2
        · rintro ⟨_, rfl⟩
          rcases Nat.lt_or_ge j i with h | h
          · have := X.nv (j := j + 1) (k := i) (by omega) (by omega); omega
          · have := X.nv (j := i + 1) (k := j) (by omega) (by have := M.le; omega); omega
      · -- a call
        have hcal' : callee (ev (only ao.looks (TT al ss allD T0 i)) f) (args.map (ev (only ao.looks (TT al ss allD T0 i)))) = some (g, az0) := by
          rw [hop] at hopers
          rw [hopers f (by simp [AOp.opers]), map_ev_congr (T' := TT al ss allD T0 i) fun z hz => hopers z (by simp [AOp.opers, hz])]
          exact hcal
        have hD' : CallD P (hOf h0 ss e) g az0 (resOf ss i) := CallD_mono (hg1 (hnotA (by rw [hk]; simp))) hD
        obtain ⟨cas, ats, hoo, rfl⟩ := compOp_call (hop ▸ hcop)
        have hf := hTs.ev f
        unfold callee at hcal'
        split at hcal'
        · rename_i g' first cap vs hfv
          simp only [Option.some.injEq, Prod.mk.injEq] at hcal'
          obtain ⟨rfl, rfl⟩ := hcal'
          rw [hfv] at hf
          simp only [VR, AsVal, PV.isAgg, VRC, List.cons.injEq, and_true] at hf
          obtain ⟨fs, cs, ef, r1, r2⟩ := hf
          have hV := VRV_append r1 (VRV_append (VRV_map hTs cas.toList) r2)
          obtain ⟨he, hcalls⟩ := callD_sound M.rel hD' hV
          unfold Oper.wp
          rw [exec_call hoo ef he y.w]
          simp only [Oper.upon]
          have eq : fs.toArray ++ cas.map a.eval ++ cs.toArray = (fs ++ (cas.toList.map a.eval ++ cs)).toArray := by
            apply Array.ext'
            simp
          rw [eq]
          refine hcalls.mono fun e' w' hh => ?_
          obtain ⟨v, z, rfl, hw, gr, hv⟩ := hh
          subst hw
          exact quiet v z gr hv
        · cases hcal'

theorem filter_lt {p q : Nat → Bool} {i : Nat} : ∀ (l : List Nat), (∀ j ∈ l, q j = true → p j = true) → i ∈ l → p i = true → q i = false → (l.filter q).length < (l.filter p).length
  | [], _, hi, _, _ => by cases hi
  | j :: l, h, hi, hp, hq => by
    have hsub : (l.filter q).length ≤ (l.filter p).length := by
      have : ∀ (l : List Nat), (∀ j ∈ l, q j = true → p j = true) → (l.filter q).length ≤ (l.filter p).length := by
        intro l
        induction l with
        | nil => intro _; simp
        | cons a l ih =>
          intro h
          have ih := ih fun j hj => h j (List.mem_cons_of_mem _ hj)
          have ha := h a (List.mem_cons_self ..)
          cases hqa : q a with
          | true => simp [hqa, ha hqa, ih]
          | false =>
            cases hpa : p a with
            | true => simp [hqa, hpa]; omega
            | false => simp [hqa, hpa, ih]
      exact this l fun j hj => h j (List.mem_cons_of_mem _ hj)
    rcases List.mem_cons.1 hi with rfl | hi'
    · simp [hp, hq]; omega
    · have ih := filter_lt l (fun j hj => h j (List.mem_cons_of_mem _ hj)) hi' hp hq
      have hj := h j (List.mem_cons_self ..)
      cases hqj : q j with
      | true => simp [hqj, hj hqj]; exact ih
      | false =>
        cases hpj : p j with
        | true => simp [hqj, hpj]; omega
        | false => simp [hqj, hpj]; exact ih

def leftOver (N : Nat) (listed : Array Bool) : List Nat := (List.range N).filter fun j => !listed.getD j false

theorem all_listed (X : Text P own n ops al ss T0 h0) {listed : Array Bool} (hsz : listed.size = ops.size) (hr : Region.ready .any ops listed = []) : ∀ j, j < ops.size → listed.getD j false = true := by
  intro j
  induction j using Nat.strongRecOn with
  | _ j ih =>
    intro hj
    cases hl : listed.getD j false with
    | true => rfl
    | false =>
      have ho := Array.getElem?_eq_getElem hj
      have : j ∈ Region.ready .any ops listed := by
        refine mem_ready.2 ⟨by rw [show listed.getD j true = listed.getD j false by simp [Array.getD_eq_getD_getElem?, hsz, hj]]; exact hl, _, ho, fun ed hed hb => ?_⟩
        have hlt := chk_edges X.chk ho ed (by simpa using hed) hb
        exact ih ed.on hlt (by omega)
      rw [hr] at this
      cases this

/-- **Every order.** -/
theorem Mid.any (X : Text P own n ops al ss T0 h0) {Q : Exit → Act → World → Prop}
    (hQ : ∀ a y, RelP P w0 F0 (hOf h0 ss al.length) y → Ext x0 y → Temps P y n (TT al ss allD T0 al.length) a → Q .normal a y.w) :
    ∀ (fuel : Nat) (listed : Array Bool) (e : Nat) (a : Act) (y : Cx), Mid P n ops al ss T0 h0 w0 F0 x0 listed e a y → (leftOver ops.size listed).length ≤ fuel → wpAny P .any ops Q fuel listed a y.w := by
  have done : ∀ (listed : Array Bool) (e : Nat) (a : Act) (y : Cx), Mid P n ops al ss T0 h0 w0 F0 x0 listed e a y → (∀ j, j < ops.size → listed.getD j false = true) → Q .normal a y.w := by
    intro listed e a y M hall
    have hlen := X.len
    have he : e = al.length := by
      rcases Nat.lt_or_ge e al.length with h | h
      · have := M.hi e (Nat.le_refl _); rw [hall e (by omega)] at this; cases this
      · have := M.le; omega
    subst he
    refine hQ a y M.rel M.ext ?_
    rw [← TT_all (D := fun j => listed.getD j false) (Nat.le_refl _) (fun j hj => hall j (by omega)) fun j h1 h2 => by omega]
    exact M.tmp
  intro fuel
  induction fuel with
  | zero =>
    intro listed e a y M hf
    have hnil : leftOver ops.size listed = [] := List.eq_nil_of_length_eq_zero (by omega)
    have hall : ∀ j, j < ops.size → listed.getD j false = true := by
      intro j hj
      cases hl : listed.getD j false with
      | true => rfl
      | false =>
        have : j ∈ leftOver ops.size listed := by simp only [leftOver, List.mem_filter, List.mem_range]; exact ⟨hj, by simp [hl]⟩
        rw [hnil] at this
        cases this
    refine ⟨?_, done listed e a y M hall⟩
    cases hr : Region.ready .any ops listed with
    | nil => rfl
    | cons i r =>
      have hi : i ∈ Region.ready .any ops listed := by rw [hr]; exact List.mem_cons_self ..
      obtain ⟨hun, o, ho, _⟩ := mem_ready.1 hi
      have hlt := (Array.getElem?_eq_some_iff.1 ho).1
      have := hall i hlt
      rw [show listed.getD i true = listed.getD i false by simp [Array.getD_eq_getD_getElem?, M.size, hlt], this] at hun
      cases hun
  | succ fuel ih =>
    intro listed e a y M hf
    refine ⟨fun hr => done listed e a y M (all_listed X M.size hr), fun i hi => ?_⟩
    refine wpOp_mono (fun a' w' hh => ?_) (M.step X hi)
    obtain ⟨e', y', rfl, M'⟩ := hh
    refine ih _ e' a' y' M' ?_
    obtain ⟨hun, o, ho, _⟩ := mem_ready.1 hi
    have hlt := (Array.getElem?_eq_some_iff.1 ho).1
    have hisz : i < listed.size := by rw [M.size]; exact hlt
    have hnot : listed.getD i false = false := by
      rw [← show listed.getD i true = listed.getD i false by simp [Array.getD_eq_getD_getElem?, hisz]]; exact hun
    have := filter_lt (p := fun j => !listed.getD j false) (q := fun j => !(listed.setIfInBounds i true).getD j false) (i := i) (List.range ops.size)
      (fun j _ hj => by rw [getD_set hisz] at hj; cases h : listed.getD j false with | true => rw [h] at hj; cases hj | false => rfl)
      (List.mem_range.2 hlt) (by rw [hnot]; rfl) (by rw [getD_set hisz]; simp)
    unfold leftOver at hf ⊢
    omega

end
end Go.Pb
