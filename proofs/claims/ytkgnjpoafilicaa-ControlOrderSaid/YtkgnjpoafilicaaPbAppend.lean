/-
  Plain library, part 10: append.
-/
import Derived.Test.YtkgnjpoafilicaaPbLoudB
set_option linter.unusedVariables false
set_option linter.unusedSimpArgs false
namespace Go.Pb
open Go Go.RowKit

section
variable {P : Program} {x : Cx} {w0 : World} {F0 : Nat → Prop} {h : Heap} {n : Nat} {T : Nat → PV} {a : Act}

theorem cellsAt_nil {w : World} {b o : Nat} : cellsAt w b o [] := fun j u hj => by simp at hj

theorem cellsOf_VRL {v : PV} {us : List Value} {cs : List PV} (h : VRC P x v us) (hc : v.cellsOf = some cs) : VRL P x cs us := by
  cases v with
  | agg ds => simp only [PV.cellsOf, Option.some.injEq] at hc; subst hc; simpa [VRC] using h
  | junk => simp [PV.cellsOf] at hc
  | tup vs => simp [PV.cellsOf] at hc
  | _ =>
    simp only [PV.cellsOf, Option.some.injEq] at hc
    subst hc
    have hl := cnt_length h rfl
    match us, hl with
    | [u], _ => simp only [VRL]; exact ⟨one_of_VRC h rfl rfl, h, trivial⟩

theorem cellsAt_append {w : World} {b o : Nat} {xs ys : List Value} (h1 : cellsAt w b o xs) (h2 : cellsAt w b (o + xs.length) ys) : cellsAt w b o (xs ++ ys) := by
  intro j u hj
  rw [List.getElem?_append] at hj
  split at hj
  · exact h1 j u hj
  · have := h2 _ u hj
    rwa [show o + xs.length + (j - xs.length) = o + j by omega] at this

theorem VRM_rowCells {b sz : Nat} : ∀ {es : List PV} {cs : List PV} {o : Nat}, VRM P x b sz es o → rowCells es = some cs → es.all (fun v => cnt v == some sz) = true →
    ∃ xs, xs.length = es.length * sz ∧ cellsAt x.w b o xs ∧ VRL P x cs xs
  | [], cs, o, _, h, _ => by simp only [rowCells, Option.some.injEq] at h; subst h; exact ⟨[], by simp, cellsAt_nil, by simp [VRL]⟩
  | e :: es, cs, o, hm, h, ha => by
    simp only [rowCells] at h
    split at h
    · rename_i c d hc hd
      simp only [Option.some.injEq] at h
      subst h
      simp only [VRM] at hm
      simp only [List.all_cons, Bool.and_eq_true] at ha
      obtain ⟨⟨hF, xs, hl, hcs, hr⟩, hm2⟩ := hm
      obtain ⟨ys, hyl, hyc, hyr⟩ := VRM_rowCells hm2 hd ha.2
      refine ⟨xs ++ ys, by simp only [List.length_append, List.length_cons, hl, hyl, Nat.add_mul]; omega, cellsAt_append hcs (by rw [hl]; exact hyc), VRL_append (cellsOf_VRL hr hc) hyr⟩
    · cases h

/-- What is appended, in the world. -/
theorem src_sound (R : RelP P w0 F0 h x) {sz m : Nat} {v : PV} {u : Value} {news : List PV} (hv : VR P x v u) (hs : srcF h sz v = some (m, news)) :
    (m = 0 ∧ news = [] ∧ ∃ ad, u = .slice ad 0 0) ∨ ∃ b o c xs, u = .slice (some ⟨b, o, none⟩) m c ∧ xs.length = m * sz ∧ cellsAt x.w b o xs ∧ VRL P x news xs := by
  unfold srcF at hs
  split at hs
  · simp only [Option.some.injEq, Prod.mk.injEq] at hs
    exact .inl ⟨hs.1.symm, hs.2.symm, _, sc_eq hv⟩
  · rename_i tg es
    split at hs
    · rename_i hall
      simp only [Option.map_eq_some_iff, Prod.mk.injEq] at hs
      obtain ⟨cs, hcs, rfl, rfl⟩ := hs
      simp only [VR, AsVal, PV.isAgg, VRC, List.cons.injEq, and_true] at hv
      obtain ⟨b, o, cap, sz', e, h1, h2, h3, hr⟩ := hv
      by_cases he : es = []
      · subst he
        simp only [rowCells, Option.some.injEq] at hcs
        subst hcs
        exact .inr ⟨b, o, cap, [], e, by simp, cellsAt_nil, by simp [VRL]⟩
      · have hsz : sz' = sz := by
          cases es with
          | nil => exact absurd rfl he
          | cons e0 es =>
            simp only [VRM] at hr
            obtain ⟨⟨_, xs, hxl, _, hv2⟩, _⟩ := hr
            simp only [List.all_cons, Bool.and_eq_true, beq_iff_eq] at hall
            rw [← hxl]
            exact cnt_length hv2 hall.1
        subst hsz
        obtain ⟨xs, hxl, hxc, hxr⟩ := VRM_rowCells hr hcs hall
        exact .inr ⟨b, o, cap, xs, e, hxl, hxc, hxr⟩
    · cases hs
  · rename_i id ver off k
    split at hs
    · rename_i ver' ty mt cs hb
      split at hs
      · rename_i hc
        simp only [Option.some.injEq, Prod.mk.injEq] at hs
        obtain ⟨rfl, rfl⟩ := hs
        simp only [VR, AsVal, PV.isAgg, VRC, List.cons.injEq, and_true] at hv
        obtain ⟨b, cap, hj, e, _⟩ := hv
        rw [hc.1] at hb
        obtain ⟨cur, hcur, hcl, hvr⟩ := own_cells R hb hj
        refine .inr ⟨b, off, cap, (cur.toList.drop off).take (k * sz), e, ?_, cellsAt_row hcur _ _, VRL_seg hcl hvr _ _ hc.2⟩
        have : cs.length ≤ cur.toList.length := by simpa using hcl
        simp; omega
      · cases hs
    · cases hs
  · cases hs

theorem run_append_zero {t e : TypeId} {i : TypeInfo} {ty : TypeId} {base : Option Addr} {k c : Nat} {u : Value} (ht : P.underlying t = some (.slice e)) (hi : P.info? e = some i) (hk : k ≤ c)
    (hu : u = .slice none 0 0 ∨ ∃ a c', u = .slice (some a) 0 c') (w : World) : (Builtin.append_ #[t, t] ty #[.slice base k c, u]).run P w = .ok (.slice base k c) w := by
  rcases hu with rfl | ⟨ad, c', rfl⟩
  · cases base <;> simp [Builtin.append_, run_underlying ht, sizeOf, typeInfo, hi, Builtin.lenOf, hk, Builtin.firstCells, storeCells]
  · cases base <;> simp [Builtin.append_, run_underlying ht, sizeOf, typeInfo, hi, Builtin.lenOf, hk, Builtin.firstCells, loadCells, loadCellsFrom, storeCells]

theorem cellsAt_add {w : World} {b o : Nat} {xs : List Value} (h : cellsAt w b o xs) : ∀ j v, xs[j]? = some v → w.cell? ((⟨b, o, none⟩ : Addr).add j) = some v := fun j v hj => by rw [Addr.add_lit]; exact h j v hj

theorem exec_append {o : Oper} {t : TypeId} {s y : Operand} (ho : o.op = .call { callee := .builtin .append, args := #[s, y], argTypes := #[t, t] }) {v : Value} {w w' : World}
    (hr : (Builtin.append_ #[t, t] o.type #[a.eval s, a.eval y]).run P w = .ok v w') : (execOp a.eval o).run P w = .ok (.value v) w' := by
  obtain ⟨cs, he⟩ := exec_bi (a := a) ho
  rw [he]
  simp only [builtin, Sem.run_bind]
  rw [show (#[s, y].map a.eval) = #[a.eval s, a.eval y] from by simp, hr]
  rfl

theorem VRL_prefix {cs : List PV} {us zs : List Value} (h : VRL P x cs us) : VRL P x cs ((us ++ zs).take cs.length) := by
  rw [← VRL_length h, List.take_left']
  · exact h
  · rfl

theorem goodL_append {o : Oper} {t e : TypeId} {i : TypeInfo} {z : Value} {s y : Operand} {r : PV} {h' : Heap} (R : RelP P w0 F0 h x) (hT : Temps P x n T a)
    (ho : o.op = .call { callee := .builtin .append, args := #[s, y], argTypes := #[t, t] }) (ht : P.underlying t = some (.slice e)) (hi : P.info? e = some i) (hz : i.zero = some z)
    (hzs : z.cells.size = i.size) (hpos : 0 < i.size) (hq : opL T h (.append t e i.size i.bytes s y) = some (r, h')) : GoodL P w0 F0 a x o h.nv r h' := by
  simp only [opL] at hq
  split at hq
  · rename_i m news hsrc
    have hsv := hT.ev s
    rcases Nat.eq_zero_or_pos m with hm0 | hmpos
    · -- nothing to append
      subst hm0
      have hu : a.eval y = .slice none 0 0 ∨ ∃ ad c', a.eval y = .slice (some ad) 0 c' := by
        rcases src_sound R (hT.ev y) hsrc with ⟨_, _, ad, e1⟩ | ⟨b, off, c, xs, e1, _⟩
        · cases ad with
          | none => exact .inl e1
          | some ad => exact .inr ⟨_, _, e1⟩
        · exact .inr ⟨_, c, e1⟩
      have key : r = ev T s ∧ h' = h ∧ ∃ base k c, a.eval s = .slice base k c ∧ k ≤ c := by
        unfold appF at hq
        split at hq
        · rename_i ad hs
          rw [hs] at hsv
          simp only [if_true, Option.some.injEq, Prod.mk.injEq] at hq
          exact ⟨by rw [hs, hq.1], hq.2.symm, _, 0, 0, sc_eq hsv, Nat.le_refl _⟩
        · rename_i tg es hs
          rw [hs] at hsv
          simp only [if_true, Option.some.injEq, Prod.mk.injEq] at hq
          simp only [VR, AsVal, PV.isAgg, VRC, List.cons.injEq, and_true] at hsv
          obtain ⟨b, off, cap, sz, e1, h1, _⟩ := hsv
          exact ⟨by rw [hs, hq.1], hq.2.symm, _, _, _, e1, h1⟩
        · rename_i id ver k hs
          rw [hs] at hsv
          simp only [if_true, Option.some.injEq, Prod.mk.injEq] at hq
          simp only [VR, AsVal, PV.isAgg, VRC, List.cons.injEq, and_true] at hsv
          obtain ⟨b, cap, _, e1, h1, _⟩ := hsv
          exact ⟨by rw [hs, hq.1], hq.2.symm, _, _, _, e1, h1⟩
        · cases hq
      obtain ⟨rfl, rfl, base, k, c, e1, hk⟩ := key
      refine ⟨_, a.eval s, x, ?_, .inl rfl, R, Ext.refl x, hT.ev s, fun _ _ _ hn => hn⟩
      rw [e1]
      exact exec_append ho (by rw [e1]; exact run_append_zero ht hi hk hu x.w)
    · -- something to append
      obtain ⟨b, off, c, xs, ey, hxl, hxc, hxr⟩ : ∃ b o c xs, a.eval y = .slice (some ⟨b, o, none⟩) m c ∧ xs.length = m * i.size ∧ cellsAt x.w b o xs ∧ VRL P x news xs := by
        rcases src_sound R (hT.ev y) hsrc with ⟨h0, _, _⟩ | h
        · omega
        · exact h
      have hm0 : m ≠ 0 := by omega
      have gd := Grow.drew x
      have Rd := R.grow gd
      have Ed := R.ext_of_grow gd
      -- a new block that holds 'cs' at its head
      have newcase : ∀ (cs : List PV) (us : List Value) (need old id : Nat) (bl' : List Blk), VRL P x cs us → us.length = need * i.size → old < need → need ≤ 4611686018427387904 →
          (∀ (k : Nat) blk, bl'[k]? = some blk → (k = id ∧ blk = .cells h.nv e true cs) ∨ (k ≠ id ∧ h.bl[k]? = some blk)) →
          (Builtin.append_ #[t, t] o.type #[a.eval s, a.eval y]).run P x.w = .ok (.slice (some ⟨x.w.heap.size, 0, none⟩) need (grownCap x.w need old e)) (x.w.drew.alloc (.cells (us.toArray ++ Builtin.zeroCells z.cells (grownCap x.w need old e - need)) e)) →
          GoodL P w0 F0 a x o h.nv (.os id h.nv 0 need) ⟨h.nv + 1, bl'⟩ := by
        intro cs us need old id bl' hv hul hlt hneed hbl hrun
        have hv' : VRL P ⟨x.w.drew, x.F, x.J⟩ cs us := VRL_ext' Ed hv
        obtain ⟨R', E⟩ := Rd.newOwn (t := e) (id := id) (cs := cs) (us := us.toArray ++ Builtin.zeroCells z.cells (grownCap x.w need old e - need))
          (by simp only [Array.size_append, List.size_toArray, VRL_length hv]; omega) (by simp only [Array.toList_append]; exact VRL_prefix hv') (bl' := bl') hbl
        have hge := grownCap_ge x.w need old e
        refine ⟨_, .slice (some ⟨x.w.heap.size, 0, none⟩) need (grownCap x.w need old e), _, exec_append ho hrun, .inl rfl, R', Ed.trans E, ?_, updJ_none (.inr (Nat.le_refl _))⟩
        refine ⟨x.w.heap.size, grownCap x.w need old e, updJ_new, rfl, hge, grownCap_le_maxLen x.w need old e (by simp only [maxLen]; omega), fun _ => ⟨_, e, (0, 0), heap_alloc_new x.w.drew _, ?_⟩⟩
        simp only [Array.size_append, List.size_toArray, size_zeroCells, hul, hzs, Program.cellsOf, hi, Option.map_some, Option.getD_some]
        rw [← Nat.add_mul, show need + (grownCap x.w need old e - need) = grownCap x.w need old e by omega]
      unfold appF at hq
      split at hq
      · rename_i ad hs
        rw [hs] at hsv
        have es := sc_eq hsv
        rw [if_neg hm0] at hq
        split at hq
        · rename_i hf
          simp only [Option.some.injEq, Prod.mk.injEq] at hq
          obtain ⟨rfl, rfl⟩ := hq
          simp only [fits, decide_eq_true_eq] at hf
          refine newcase news xs m 0 h.bl.length _ hxr hxl hmpos hf.2 bl_append ?_
          rw [es, ey]
          cases ad with
          | none =>
            have := run_append_nil (P := P) x.w t o.type e i z ht hi hz ⟨b, off, none⟩ m c xs hxl (cellsAt_add hxc) hmpos (by omega) (by omega)
            rw [this]
          | some ad =>
            have := run_append_grow (P := P) x.w t o.type e i z ht hi hz ad 0 0 [] (by simp) (fun j v hj => by simp at hj) ⟨b, off, none⟩ m c xs hxl (cellsAt_add hxc) (by omega) (by omega) (growslice_fits (by omega) (by simpa using hf.1))
            rw [this]
            simp
        · cases hq
      · rename_i tight es hs
        rw [hs] at hsv
        rw [if_neg hm0] at hq
        split at hq
        · rename_i hcond
          obtain ⟨htight, hall, hf⟩ := hcond
          simp only [Option.map_eq_some_iff, Prod.mk.injEq] at hq
          obtain ⟨cs, hcs, rfl, rfl⟩ := hq
          simp only [VR, AsVal, PV.isAgg, VRC, List.cons.injEq, and_true] at hsv
          obtain ⟨bs, os, cap, sz', e1, h1, h2, h3, hr⟩ := hsv
          have hcap := h3 htight
          subst hcap
          simp only [fits, decide_eq_true_eq] at hf
          obtain ⟨ys, hyl, hyc, hyr⟩ : ∃ ys, ys.length = es.length * i.size ∧ cellsAt x.w bs os ys ∧ VRL P x cs ys := by
            by_cases he : es = []
            · subst he
              simp only [rowCells, Option.some.injEq] at hcs
              subst hcs
              exact ⟨[], by simp, cellsAt_nil, by simp [VRL]⟩
            · have hsz : sz' = i.size := by
                cases es with
                | nil => exact absurd rfl he
                | cons e0 es =>
                  simp only [VRM] at hr
                  obtain ⟨⟨_, zs, hzl, _, hv2⟩, _⟩ := hr
                  simp only [List.all_cons, Bool.and_eq_true, beq_iff_eq] at hall
                  rw [← hzl]
                  exact cnt_length hv2 hall.1
              subst hsz
              exact VRM_rowCells hr hcs hall
          refine newcase (cs ++ news) (ys ++ xs) (es.length + m) es.length h.bl.length _ (VRL_append hyr hxr) (by rw [List.length_append, hyl, hxl, Nat.add_mul]) (by omega) hf.2 bl_append ?_
          rw [e1, ey]
          have := run_append_grow (P := P) x.w t o.type e i z ht hi hz ⟨bs, os, none⟩ es.length es.length ys hyl (cellsAt_add hyc) ⟨b, off, none⟩ m c xs hxl (cellsAt_add hxc) (by omega) (by omega) (growslice_fits (by omega) hf.1)
          rw [this]
          simp
        · cases hq
      · rename_i id ver k hs
        rw [hs] at hsv
        rw [if_neg hm0] at hq
        split at hq
        · rename_i ver' ty cs hb
          split at hq
          · rename_i hcond
            obtain ⟨rfl, rfl, hkl, hf⟩ := hcond
            simp only [Option.some.injEq, Prod.mk.injEq] at hq
            obtain ⟨rfl, rfl⟩ := hq
            simp only [VR, AsVal, PV.isAgg, VRC, List.cons.injEq, and_true] at hsv
            obtain ⟨bs, cap, hj, e1, h1, h2, h3⟩ := hsv
            obtain ⟨cur, hcur, hcl, hvr⟩ := own_cells R hb hj
            obtain ⟨cur', ty', fr', hcur', hcs'⟩ := h3 trivial
            rw [hcur] at hcur'
            simp only [Option.some.injEq, Obj.cells.injEq] at hcur'
            obtain ⟨rfl, rfl, rfl⟩ := hcur'
            simp only [Program.cellsOf, hi, Option.map_some, Option.getD_some] at hcs'
            simp only [fits, decide_eq_true_eq] at hf
            have hseg := VRL_seg hcl hvr 0 (k * i.size) (by omega)
            simp only [List.drop_zero] at hseg
            have hclt : cs.length ≤ cur.toList.length := by simpa using hcl
            have hol : (cur.toList.take (k * i.size)).length = k * i.size := by simp; have : cs.length ≤ cur.size := hcl; omega
            by_cases hroom : k + m ≤ cap
            · have hfit : k * i.size + xs.length ≤ cur.size := by rw [hxl, hcs', ← Nat.add_mul]; exact Nat.mul_le_mul_right _ hroom
              have hrun := run_append_room (P := P) x.w t o.type ty i ht hi bs k cap cur hcur ⟨b, off, none⟩ m c xs hxl (cellsAt_add hxc) (VRL_one hxr) hroom hfit
              have hsz : (cur.toList.take (k * i.size) ++ xs ++ cur.toList.drop (k * i.size + xs.length)).toArray.size = cur.size := by
                simp only [List.size_toArray, List.length_append, List.length_take, List.length_drop, Array.length_toList]; omega
              obtain ⟨R', E⟩ := R.setOwn (ds := cs.take (k * i.size) ++ news) (us := (cur.toList.take (k * i.size) ++ xs ++ cur.toList.drop (k * i.size + xs.length)).toArray) hb hj hcur hsz
                (by rw [hsz, List.length_append, List.length_take, ← VRL_length hxr]; omega) (VRL_prefix (VRL_append hseg hxr)) (.inr ⟨rfl, rfl⟩) (bl' := h.bl.set id (.cells h.nv ty true (cs.take (k * i.size) ++ news))) bl_set
              refine ⟨_, .slice (some ⟨bs, 0, none⟩) (k + m) cap, _, exec_append ho (by rw [e1, ey]; exact hrun), .inl rfl, R', E, ?_, updJ_none (.inr (Nat.le_refl _))⟩
              refine ⟨bs, cap, updJ_new, rfl, hroom, h2, fun _ => ⟨_, ty, (0, 0), setRow_heap _ _ _ _ _ _ hcur, ?_⟩⟩
              rw [hsz, hcs']
              simp only [Program.cellsOf, hi, Option.map_some, Option.getD_some]
            · refine newcase (cs.take (k * i.size) ++ news) (cur.toList.take (k * i.size) ++ xs) (k + m) cap id _ (VRL_append hseg hxr) (by rw [List.length_append, hol, hxl, Nat.add_mul]) (by omega) hf.2 bl_set ?_
              rw [e1, ey]
              have hrow : cellsAt x.w bs 0 (cur.toList.take (k * i.size)) := by have := cellsAt_row hcur 0 (k * i.size); simpa using this
              have := run_append_grow (P := P) x.w t o.type ty i z ht hi hz ⟨bs, 0, none⟩ k cap (cur.toList.take (k * i.size)) hol (cellsAt_add hrow) ⟨b, off, none⟩ m c xs hxl (cellsAt_add hxc) (by omega) (by omega) (growslice_fits (by omega) hf.1)
              rw [this]
              simp
          · cases hq
        · cases hq
      · cases hq
  · cases hq

end
end Go.Pb
