/-
  Plain library, part 7: slice literals, slice expressions, and one theorem for all quiet operations.
-/
import Derived.Test.YtkgnjpoafilicaaPbQuietB
set_option linter.unusedVariables false
set_option linter.unusedSimpArgs false
namespace Go.Pb
open Go Go.RowKit

section
variable {P : Program} {x : Cx} {w0 : World} {F0 : Nat → Prop} {h : Heap} {n : Nat} {T : Nat → PV} {a : Act}

theorem fill_row (hT : Temps P x n T a) {sz : Nat} : ∀ (parts : List (Nat × Operand)) (k : Nat) (ps : List Operand) (pre rest : List Value),
    partsRow k parts = some ps → pre.length = k * sz → rest.length = ps.length * sz → (ps.map (ev T)).all (fun v => cnt v == some sz) = true →
    Instr.fill (fun i => some (i * sz, sz)) (pre ++ rest).toArray (parts.map fun p => (p.1, a.eval p.2)) = some (pre ++ (ps.map fun p => (a.eval p).cells.toList).flatten).toArray
  | [], k, ps, pre, rest, hp, h1, h2, h3 => by
    simp only [partsRow, Option.some.injEq] at hp
    subst hp
    have : rest = [] := List.eq_nil_of_length_eq_zero (by simpa using h2)
    subst this
    rfl
  | (i, y) :: r, k, ps, pre, rest, hp, h1, h2, h3 => by
    simp only [partsRow] at hp
    split at hp
    · rename_i hik
      subst hik
      simp only [Option.map_eq_some_iff] at hp
      obtain ⟨ps', hps, rfl⟩ := hp
      simp only [List.map_cons, List.all_cons, Bool.and_eq_true, beq_iff_eq] at h3
      obtain ⟨cs, hcs, hl⟩ := cnt_cells h3.1
      have hvr := (VR_cells (hT.ev y) hcs).1
      have hlen : (a.eval y).cells.toList.length = sz := by rw [VRL_length hvr, hl]
      simp only [List.length_cons, Nat.add_mul, Nat.one_mul] at h2
      simp only [List.map_cons]
      rw [fill_cons (off := i * sz) (sz := sz) rfl (by rw [← Array.length_toList, hlen]) (by simp; omega)]
      have e1 : (pre ++ rest).take (i * sz) = pre := by rw [← h1]; simp
      have e2 : (pre ++ rest).drop (i * sz + (a.eval y).cells.toList.length) = rest.drop sz := by rw [← h1, hlen, List.drop_append]; simp
      rw [e1, e2, ← List.append_assoc]
      rw [fill_row hT r (i + 1) ps' (pre ++ (a.eval y).cells.toList) (rest.drop sz) hps (by simp only [List.length_append, h1, hlen, Nat.add_mul]; omega) (by simp only [List.length_drop]; omega) h3.2]
      simp
    · cases hp

theorem VRM_flatten {P : Program} {y : Cx} {b sz : Nat} (hF : y.F b) : ∀ (es : List PV) (xss : List (List Value)) (o : Nat), es.length = xss.length → (∀ p ∈ es.zip xss, p.2.length = sz ∧ VRC P y p.1 p.2) →
    cellsAt y.w b o xss.flatten → VRM P y b sz es o
  | [], _, _, _, _, _ => by simp [VRM]
  | e :: es, [], _, hl, _, _ => by simp at hl
  | e :: es, xs :: xss, o, hl, hz, hc => by
    simp only [List.zip_cons_cons, List.mem_cons, forall_eq_or_imp] at hz
    simp only [VRM]
    refine ⟨⟨hF, xs, hz.1.1, fun j u hj => hc j u ?_, hz.1.2⟩, VRM_flatten hF es xss (o + sz) (by simpa using hl) hz.2 fun j u hj => ?_⟩
    · simp only [List.flatten_cons]
      rw [List.getElem?_append_left (List.getElem?_eq_some_iff.1 hj).1]
      exact hj
    · have := hc (sz + j) u (by
        simp only [List.flatten_cons]
        rw [List.getElem?_append_right (by omega), hz.1.1]
        rw [show sz + j - sz = j by omega]
        exact hj)
      rwa [show o + (sz + j) = o + sz + j by omega] at this

theorem partsRow_length : ∀ (parts : List (Nat × Operand)) (k : Nat) (ps : List Operand), partsRow k parts = some ps → parts.length = ps.length
  | [], k, ps, h => by simp only [partsRow, Option.some.injEq] at h; subst h; rfl
  | (i, y) :: r, k, ps, h => by
    simp only [partsRow] at h
    split at h
    · simp only [Option.map_eq_some_iff] at h
      obtain ⟨ps', hps, rfl⟩ := h
      simp [partsRow_length r _ ps' hps]
    · cases h

/-- The run of a slice literal. -/
theorem run_bslice {t e : TypeId} {len : Nat} {parts : Array (Nat × Operand)} {m : TypeInfo} {z : Value} {ps : List Operand} (hT : Temps P x n T a) (ht : P.underlying t = some (.slice e)) (hm : P.info? e = some m) (hz : m.zero = some z)
    (hps : partsRow 0 parts.toList = some ps) (hl : ps.length = len) (hs : len * m.size ≤ 16777216) (hzs : z.cells.size = m.size) (hall : (ps.map (ev T)).all (fun v => cnt v == some m.size) = true) :
    (Instr.buildSlice t len (parts.map fun (i, y) => (i, a.eval y))).run P x.w = .ok (.slice (some ⟨x.w.heap.size, 0, none⟩) len len) (x.w.alloc (.cells (ps.map fun p => (a.eval p).cells.toList).flatten.toArray e)) := by
  have hparts : (parts.map fun (i, y) => (i, a.eval y)).toList = parts.toList.map fun p => (p.1, a.eval p.2) := by simp
  have key : ∀ (zero : Array Value), Instr.fill (fun i => some (i * m.size, m.size)) ((Array.range (len * m.size)).map (zero[· % zero.size]!)) (parts.toList.map fun p => (p.1, a.eval p.2)) =
      some (ps.map fun p => (a.eval p).cells.toList).flatten.toArray := by
    intro zero
    have := fill_row hT (sz := m.size) parts.toList 0 ps [] ((Array.range (len * m.size)).map (zero[· % zero.size]!)).toList hps (by simp) (by simp [hl]) hall
    rw [List.nil_append, Array.toArray_toList, List.nil_append] at this
    exact this
  have hz0 : (zeroValue e).run P x.w = .ok z x.w := by simp [zeroValue, typeInfo, hm, hz]
  by_cases h0 : len * m.size = 0
  · simp only [Instr.buildSlice, Sem.run_bind, run_underlying ht, Result.andThen_ok, sizeOf, typeInfo, run_program, hm, Sem.run_pure]
    rw [if_neg (by omega)]
    simp only [h0, if_true, Sem.run_bind, Sem.run_pure, Result.andThen_ok, hparts]
    have k := key #[]
    rw [h0] at k
    simp only [k, Sem.run_bind, newRow, run_newObj, Result.andThen_ok, Sem.run_pure, World.alloc_eq]
  · simp only [Instr.buildSlice, Sem.run_bind, run_underlying ht, Result.andThen_ok, sizeOf, typeInfo, run_program, hm, Sem.run_pure]
    rw [if_neg (by omega)]
    simp only [h0, if_false, Sem.run_bind, hz0, Sem.run_pure, Result.andThen_ok, hparts, key]
    simp only [Sem.run_bind, newRow, run_newObj, Result.andThen_ok, Sem.run_pure, World.alloc_eq]

theorem zip_cells (hT : Temps P x n T a) {sz : Nat} : ∀ (ps : List Operand), (ps.map (ev T)).all (fun v => cnt v == some sz) = true →
    ∀ p ∈ (ps.map (ev T)).zip (ps.map fun p => (a.eval p).cells.toList), p.2.length = sz ∧ VRC P x p.1 p.2
  | [], _, p, hp => by cases hp
  | q :: ps, hall, p, hp => by
    simp only [List.map_cons, List.all_cons, Bool.and_eq_true, beq_iff_eq] at hall
    simp only [List.map_cons, List.zip_cons_cons, List.mem_cons] at hp
    rcases hp with rfl | hp
    · obtain ⟨cs, hcs, hl⟩ := cnt_cells hall.1
      have := VR_cells (hT.ev q) hcs
      exact ⟨by rw [VRL_length this.1, hl], this.2⟩
    · exact zip_cells hT ps hall.2 p hp

theorem good_bslice {o : Oper} {own : List Tmp} {t : TypeId} {len : Nat} {parts : Array (Nat × Operand)} {ao : AOp} {r : PV} (R : RelP P w0 F0 h x) (hT : Temps P x n T a) (ho : o.op = .buildSlice t len parts)
    (hc : compOp P own o.dst o.type (.buildSlice t len parts) = some ao) (hq : opQ P T h ao = some r) : Good P a x o r := by
  simp only [compOp] at hc
  split at hc
  · rename_i e ht
    simp only [Option.bind_eq_bind, Option.bind_eq_some_iff] at hc
    obtain ⟨m, hm, z, hz, ps, hps, hc⟩ := hc
    split at hc
    · rename_i hl
      simp only [Option.pure_def, Option.some.injEq] at hc
      subst hc
      cases hown : (o.dst.any fun d => own.contains d) with
      | true => rw [hown] at hq; simp [opQ] at hq
      | false =>
        rw [hown] at hq
        simp only [opQ] at hq
        split at hq
        · rename_i hall
          simp only [Option.some.injEq] at hq
          subst hq
          have hrun := run_bslice hT ht hm hz hps hl.1 hl.2.1 hl.2.2.2 hall
          obtain ⟨g, ex, hF, hcell⟩ := frozen_new R (ps.map fun p => (a.eval p).cells.toList).flatten e
          refine ⟨.slice (some ⟨x.w.heap.size, 0, none⟩) len len, _, ?_, g, ?_⟩
          · simp only [execOp, ho, Sem.run_bind, hrun, Result.andThen_ok, Sem.run_pure]
          · refine ⟨x.w.heap.size, 0, len, m.size, ?_, ?_, ?_, ?_, ?_⟩
            · simp [hl.1]
            · simp [hl.1]
            · simp only [maxLen]; omega
            · intro _; simp [hl.1]
            · refine VRM_flatten hF _ (ps.map fun p => (a.eval p).cells.toList) 0 (by simp) (fun p hp => ?_) hcell
              have := zip_cells hT ps hall p hp
              exact ⟨this.1, VRC_ext ex _ _ this.2⟩
        · cases hq
    · cases hc
  · cases hc

theorem bound_ev (hT : Temps P x n T a) {y : Operand} {k : Nat} {d : Nat} (hb : boundF T d (some y) = some k) : ∃ kk, a.eval y = .int kk (k : Int) := by
  simp only [boundF] at hb
  have hy := hT.ev y
  split at hb
  · rename_i kk m hv
    rw [hv] at hy
    have hy := sc_eq hy
    split at hb
    · rename_i h0
      simp only [Option.some.injEq] at hb
      exact ⟨kk, by rw [hy, ← hb, Int.toNat_of_nonneg h0]⟩
    · cases hb
  · cases hb

theorem run_bound {kk : IntKind} {k y : Nat} {code : BoundsCode} (hk : k ≤ y) (w : World) : (Instr.sliceBound (.int kk (k : Int)) y code).run P w = .ok k w := by
  simp [Instr.sliceBound, asIntOf, hk]

/-- The bounds of a slice expression whose bounds are within the length. -/
theorem run_sliceBounds (hT : Temps P x n T a) {lo hi mx : Option Operand} {len cap l u : Nat} {m : Option Nat} (w : World) (hcap : len ≤ cap)
    (hl : boundF T 0 lo = some l) (hu : boundF T len hi = some u) (hm : boundM T mx = some m)
    (h1 : l ≤ u) (h2 : u ≤ len) (h3 : ∀ k, m = some k → u ≤ k ∧ k ≤ len ∧ hi.isSome = true) :
    (Instr.sliceBounds true len cap (lo.map a.eval) (hi.map a.eval) (mx.map a.eval)).run P w = .ok (l, u, m.getD cap) w := by
  cases mx with
  | none =>
    simp only [boundM, Option.some.injEq] at hm
    subst hm
    cases hi with
    | none =>
      simp only [boundF, Option.some.injEq] at hu
      subst hu
      cases lo with
      | none =>
        simp only [boundF, Option.some.injEq] at hl
        subst hl
        simp [Instr.sliceBounds]
      | some y =>
        obtain ⟨kk, e⟩ := bound_ev hT hl
        simp [Instr.sliceBounds, e, run_bound h1]
    | some z =>
      obtain ⟨kz, ez⟩ := bound_ev hT hu
      cases lo with
      | none =>
        simp only [boundF, Option.some.injEq] at hl
        subst hl
        simp [Instr.sliceBounds, ez, run_bound (show u ≤ cap by omega)]
      | some y =>
        obtain ⟨kk, e⟩ := bound_ev hT hl
        simp [Instr.sliceBounds, ez, e, run_bound (show u ≤ cap by omega), run_bound h1]
  | some q =>
    simp only [boundM, Option.map_eq_some_iff] at hm
    obtain ⟨k, hk, rfl⟩ := hm
    obtain ⟨kq, eq⟩ := bound_ev hT hk
    obtain ⟨h4, h5, h6⟩ := h3 k rfl
    cases hi with
    | none => simp at h6
    | some z =>
      obtain ⟨kz, ez⟩ := bound_ev hT hu
      cases lo with
      | none =>
        simp only [boundF, Option.some.injEq] at hl
        subst hl
        simp [Instr.sliceBounds, ez, eq, run_bound (show k ≤ cap by omega), run_bound h4]
      | some y =>
        obtain ⟨kk, e⟩ := bound_ev hT hl
        simp [Instr.sliceBounds, ez, e, eq, run_bound (show k ≤ cap by omega), run_bound h4, run_bound h1]

theorem run_sliceAt_slice {t e : TypeId} {m : TypeInfo} (ht : P.underlying t = some (.slice e)) (hm : P.info? e = some m) {b off len cap l u c : Nat} {lo hi mx : Option Value} (w : World)
    (hb : (Instr.sliceBounds true len cap lo hi mx).run P w = .ok (l, u, c) w) :
    (Instr.sliceAt t (.slice (some ⟨b, off, none⟩) len cap) lo hi mx).run P w = .ok (.slice (some (if c = l then ⟨b, off, none⟩ else ⟨b, off + l * m.size, none⟩)) (u - l) (c - l)) w := by
  simp only [Instr.sliceAt, Sem.run_bind, run_underlying ht, Result.andThen_ok, Instr.slice, hb, sizeOf, typeInfo, run_program, hm, Sem.run_pure]
  by_cases hcl : c = l <;> simp [hcl, Addr.add_lit]

theorem opt_toV (hT : Temps P x n T a) {lo : Option Operand} {l : Option Value} (hl : optV T lo = some l) : lo.map a.eval = l := by
  cases lo with
  | none => simpa [optV] using hl
  | some y =>
    simp only [optV, Option.map_eq_some_iff] at hl
    obtain ⟨v, hv, rfl⟩ := hl
    simp [toV_eq (hT.ev y) hv]

theorem good_slice {o : Oper} {own : List Tmp} {t : TypeId} {y : Operand} {lo hi mx : Option Operand} {ao : AOp} {r : PV} (hT : Temps P x n T a) (ho : o.op = .slice t y lo hi mx)
    (hc : compOp P own o.dst o.type (.slice t y lo hi mx) = some ao) (hq : opQ P T h ao = some r) : Good P a x o r := by
  have hy := hT.ev y
  have pure_case : ∀ d, P.underlying t = some d → (∀ k e, d ≠ .array k e) → (match toV (ev T y), optV T lo, optV T hi, optV T mx with
      | some a, some l, some u, some m => (pureRun P (Instr.slice t a l u m)).map .ofConst
      | _, _, _, _ => none) = some r → Good P a x o r := by
    intro d hd hna hq
    split at hq
    · rename_i v l u m hv hl hu hm
      simp only [Option.map_eq_some_iff] at hq
      obtain ⟨w, hw, rfl⟩ := hq
      refine Good.const ?_
      have e := toV_eq hy hv
      have hs : ∀ lo' hi' mx', (Instr.sliceAt t (a.eval y) lo' hi' mx').run P x.w = (Instr.slice t (a.eval y) lo' hi' mx').run P x.w := by
        intro lo' hi' mx'
        simp only [Instr.sliceAt, Sem.run_bind, run_underlying hd, Result.andThen_ok]
      simp only [execOp, ho, Sem.run_bind, hs]
      rw [e, opt_toV hT hl, opt_toV hT hu, opt_toV hT hm, pureRun_run hw x.w]
      rfl
    · cases hq
  simp only [compOp] at hc
  split at hc
  · rename_i ht
    simp only [Option.some.injEq] at hc
    subst hc
    exact pure_case _ ht (by simp) hq
  · rename_i e ht
    simp only [Option.bind_eq_bind, Option.bind_eq_some_iff] at hc
    obtain ⟨i, hi', hc⟩ := hc
    simp only [Option.pure_def, Option.some.injEq] at hc
    subst hc
    simp only [opQ] at hq
    split at hq
    · rename_i tg es hv
      rw [hv] at hy
      simp only [VR, AsVal, PV.isAgg, VRC, List.cons.injEq, and_true] at hy
      obtain ⟨b, off, cap, sz, ey, h1, h2, h3, hr⟩ := hy
      split at hq
      · rename_i l u m hl hu hm
        split at hq
        · rename_i hcond
          obtain ⟨c1, c2, c3, c4⟩ := hcond
          simp only [Option.some.injEq] at hq
          subst hq
          have h3' : ∀ k, m = some k → u ≤ k ∧ k ≤ es.length ∧ hi.isSome = true := by
            intro k hk
            subst hk
            simp only [okMaxF, Bool.and_eq_true, decide_eq_true_eq] at c3
            exact ⟨c3.1.1, c3.1.2, c3.2⟩
          have hb := run_sliceBounds (P := P) hT x.w h1 hl hu hm c1 c2 h3'
          have hrun := run_sliceAt_slice ht hi' (b := b) (off := off) x.w hb
          refine Good.same (v := .slice (some (if m.getD cap = l then ⟨b, off, none⟩ else ⟨b, off + l * i.size, none⟩)) (u - l) (m.getD cap - l)) ?_ ?_
          · simp only [execOp, ho, Sem.run_bind, ey, hrun, Result.andThen_ok, Sem.run_pure]
          · have hlen : ((es.drop l).take (u - l)).length = u - l := by simp; omega
            have hcapm : m.getD cap ≤ cap := by cases m with | none => simp | some k => simp; have := h3' k rfl; omega
            have hum : u ≤ m.getD cap := by cases m with | none => simp; omega | some k => simp; have := h3' k rfl; omega
            refine ⟨b, if m.getD cap = l then off else off + l * i.size, m.getD cap - l, sz, ?_, ?_, ?_, ?_, ?_⟩
            · rw [hlen]
              split <;> rfl
            · rw [hlen]; omega
            · omega
            · intro ht1
              rw [hlen]
              cases m with
              | none =>
                simp only [tightF, Bool.and_eq_true, beq_iff_eq] at ht1
                have := h3 ht1.1
                simp; omega
              | some k =>
                simp only [tightF, beq_iff_eq] at ht1
                simp; omega
            · by_cases hul : u = l
              · rw [show u - l = 0 by omega]; simp [VRM]
              · rw [if_neg (by omega)]
                have hsz : sz = i.size := by
                  have hlt : l < es.length := by omega
                  have hel : es[l]? = some es[l] := List.getElem?_eq_getElem hlt
                  obtain ⟨_, xs, hxl, _, hv2⟩ := VRM_get l hr hel
                  have hcn := List.all_eq_true.1 c4 es[l] (List.getElem_mem hlt)
                  rw [← hxl]
                  exact cnt_length hv2 (by simpa using hcn)
                rw [← hsz]
                exact VRM_take _ (VRM_drop l hr)
        · cases hq
      · cases hq
    · rename_i id ver off len hv
      rw [hv] at hy
      simp only [VR, AsVal, PV.isAgg, VRC, List.cons.injEq, and_true] at hy
      obtain ⟨b, cap, hj, ey, h1, h2, h3⟩ := hy
      split at hq
      · rename_i l u m hl hu hm
        split at hq
        · rename_i hcond
          obtain ⟨c1, c2, c4, c3⟩ := hcond
          simp only [Option.some.injEq] at hq
          have h3' : ∀ k, m = some k → u ≤ k ∧ k ≤ len ∧ hi.isSome = true := by
            intro k hk
            subst hk
            simp only [okMaxO, Bool.and_eq_true, decide_eq_true_eq] at c3
            exact ⟨by omega, by omega, c3.2⟩
          have hb := run_sliceBounds (P := P) hT x.w h1 hl hu hm c1 c2 h3'
          have hrun := run_sliceAt_slice ht hi' (b := b) (off := off) x.w hb
          have hcapm : m.getD cap ≤ cap := by cases m with | none => simp | some k => simp; have := h3' k rfl; omega
          have hum : u ≤ m.getD cap := by cases m with | none => simp; omega | some k => simp; have := h3' k rfl; omega
          refine Good.same (v := .slice (some (if m.getD cap = l then ⟨b, off, none⟩ else ⟨b, off + l * i.size, none⟩)) (u - l) (m.getD cap - l)) ?_ ?_
          · simp only [execOp, ho, Sem.run_bind, ey, hrun, Result.andThen_ok, Sem.run_pure]
          · subst hq
            by_cases hlu : l = u
            · subst hlu
              simp only [if_true]
              refine ⟨b, if m.getD cap = l then off else off + l * i.size, m.getD cap - l, 0, ?_, ?_, ?_, ?_, by simp [VRM]⟩
              · simp only [Nat.sub_self, List.length_nil]
                split <;> rfl
              · simp
              · omega
              · intro hms
                cases m with
                | none => simp at hms
                | some k => simp only [okMaxO, Bool.and_eq_true, decide_eq_true_eq] at c3; simp; omega
            · have hmn : m = none := by
                cases m with
                | none => rfl
                | some k => simp only [okMaxO, Bool.and_eq_true, decide_eq_true_eq] at c3; exact absurd c3.1.2 hlu
              subst hmn
              simp only [hlu, if_false, Option.getD_none] at hum ⊢
              rw [if_neg (by omega)]
              refine ⟨b, cap - l, hj, rfl, by omega, by omega, fun h0 => ?_⟩
              have hl0 : l = 0 := by
                rcases Nat.eq_zero_or_pos l with h | h
                · exact h
                · have : 0 < l * i.size := Nat.mul_pos h c4
                  omega
              subst hl0
              simpa using h3 (by simpa using h0)
        · cases hq
      · cases hq
    · exact pure_case _ ht (by simp) hq
  · cases hc

theorem good_nilCheck {o : Oper} {y : Operand} {r : PV} (hT : Temps P x n T a) (ho : o.op = .nilCheck y) (hq : opQ P T h (.nilCheck y) = some r) : Good P a x o r := by
  simp only [opQ] at hq
  have hy := hT.ev y
  split at hq
  all_goals first
    | cases hq; done
    | skip
  · rename_i v hv
    simp only [Option.some.injEq] at hq
    subst hq
    rw [hv] at hy
    have hy' := hy
    simp only [VR, AsVal, PV.isAgg, VRC, List.cons.injEq, and_true] at hy'
    obtain ⟨b, off, xs, e, _⟩ := hy'
    exact Good.same (v := a.eval y) (by simp [execOp, ho, e]) hy
  · rename_i id ver off hv
    simp only [Option.some.injEq] at hq
    subst hq
    rw [hv] at hy
    have hy' := hy
    simp only [VR, AsVal, PV.isAgg, VRC, List.cons.injEq, and_true] at hy'
    obtain ⟨b, _, e⟩ := hy'
    exact Good.same (v := a.eval y) (by simp [execOp, ho, e]) hy
  · rename_i f p q hv
    simp only [Option.some.injEq] at hq
    subst hq
    rw [hv] at hy
    have hy' := hy
    simp only [VR, AsVal, PV.isAgg, VRC, List.cons.injEq, and_true] at hy'
    obtain ⟨fs, cs, e, _⟩ := hy'
    exact Good.same (v := a.eval y) (by simp [execOp, ho, e]) hy

theorem good_mkIface {o : Oper} {own : List Tmp} {t : TypeId} {y : Operand} {ao : AOp} {r : PV} (hT : Temps P x n T a) (ho : o.op = .makeInterface t y)
    (hc : compOp P own o.dst o.type (.makeInterface t y) = some ao) (hq : opQ P T h ao = some r) : Good P a x o r := by
  simp only [compOp] at hc
  split at hc
  · cases hc
  · rename_i d ht hne
    simp only [Option.some.injEq] at hc
    subst hc
    simp only [opQ, Option.some.injEq] at hq
    subst hq
    refine Good.same (v := .iface t (a.eval y)) ?_ ⟨_, rfl, hT.ev y⟩
    have : (underlying t).run P x.w = .ok d x.w := run_underlying hne x.w
    simp only [execOp, ho, Instr.makeInterface, Sem.run_bind, this, Result.andThen_ok]
    cases d <;> first | rfl | exact absurd hne (by simp_all)
  · cases hc

theorem good_mkFunc {o : Oper} {f : Fn} {p q : Array Operand} {r : PV} (hT : Temps P x n T a) (ho : o.op = .makeFunc f p q) (hq : opQ P T h (.mkFunc f p.toList q.toList) = some r) : Good P a x o r := by
  simp only [opQ, Option.some.injEq] at hq
  subst hq
  refine Good.same (v := .func f (p.map a.eval) (q.map a.eval)) (by simp [execOp, ho, Instr.makeFunc]) ?_
  exact ⟨p.toList.map a.eval, q.toList.map a.eval, by rw [← Array.toList_map, ← Array.toList_map], VRV_map hT _, VRV_map hT _⟩

theorem good_tassert {o : Oper} {own : List Tmp} {t t' : TypeId} {ok : Bool} {y : Operand} {ao : AOp} {r : PV} (hT : Temps P x n T a) (ho : o.op = .typeAssert y t' t ok)
    (hc : compOp P own o.dst o.type (.typeAssert y t' t ok) = some ao) (hq : opQ P T h ao = some r) : Good P a x o r := by
  simp only [compOp] at hc
  split at hc
  · cases hc
  · rename_i d ht hne
    simp only [Option.some.injEq] at hc
    subst hc
    simp only [opQ] at hq
    have hy := hT.ev y
    split at hq
    · rename_i u v hv
      split at hq
      · rename_i hut
        subst hut
        simp only [Option.some.injEq] at hq
        rw [hv] at hy
        simp only [VR, AsVal, PV.isAgg, VRC, List.cons.injEq, and_true] at hy
        obtain ⟨w, e, hw⟩ := hy
        have hd : ∀ m, d ≠ .interface m := fun m e => by subst e; simp_all
        have hrun : (Instr.typeAssert (.iface u w) t' u ok).run P x.w = .ok (if ok then .tuple #[w, .bool true] else w) x.w := by
          simp only [Instr.typeAssert, Sem.run_bind, run_underlying hne, Result.andThen_ok]
          cases d <;> first | (simp; done) | (rename_i m; exact absurd rfl (hd m))
        refine Good.same (v := if ok then .tuple #[w, .bool true] else w) ?_ ?_
        · simp only [execOp, ho, Sem.run_bind, e, hrun, Result.andThen_ok, Sem.run_pure]
        · subst hq
          cases ok with
          | true => exact ⟨[w, .bool true], rfl, by simp only [VRV]; exact ⟨hw, VR_ofConst P x (.bool true), trivial⟩⟩
          | false => exact hw
      · cases hq
    · cases hq
  · cases hc

/-- **Every quiet operation.** -/
theorem opQ_sound {o : Oper} {own : List Tmp} {ao : AOp} {r : PV} (R : RelP P w0 F0 h x) (hT : Temps P x n T a) (hc : compOp P own o.dst o.type o.op = some ao) (hq : opQ P T h ao = some r) : Good P a x o r := by
  cases ho : o.op with
  | move y => rw [ho] at hc; simp only [compOp, Option.some.injEq] at hc; subst hc; simp only [opQ, Option.some.injEq] at hq; subst hq; exact good_move y hT (.inl ho)
  | assign y => rw [ho] at hc; simp only [compOp, Option.some.injEq] at hc; subst hc; simp only [opQ, Option.some.injEq] at hq; subst hq; exact good_move y hT (.inr ho)
  | pick c y z => rw [ho] at hc; simp only [compOp, Option.some.injEq] at hc; subst hc; exact good_pick hT ho hq
  | binOp op t y z t' => rw [ho] at hc; simp only [compOp, Option.some.injEq] at hc; subst hc; exact good_bin hT ho hq
  | unOp op t y => rw [ho] at hc; simp only [compOp, Option.some.injEq] at hc; subst hc; exact good_un hT ho hq
  | convert s d y => rw [ho] at hc; simp only [compOp, Option.some.injEq] at hc; subst hc; exact good_conv hT ho hq
  | load t y => rw [ho] at hc; exact good_load R hT ho hc hq
  | fieldAddr s y k => rw [ho] at hc; exact good_faddr hT ho hc hq
  | field s y k => rw [ho] at hc; exact good_field hT ho hc hq
  | indexAddr t y z => rw [ho] at hc; exact good_iaddr hT ho hc hq
  | index t y z => rw [ho] at hc; exact good_indexA hT ho hc hq
  | extract y i => rw [ho] at hc; simp only [compOp, Option.some.injEq] at hc; subst hc; exact good_extract hT ho hq
  | box t y =>
    rw [ho] at hc; simp only [compOp, Option.some.injEq] at hc; subst hc
    cases hown : (o.dst.any fun d => own.contains d) with
    | true => rw [hown] at hq; simp [opQ] at hq
    | false => rw [hown] at hq; exact good_boxF R hT ho hq
  | alloc t =>
    rw [ho] at hc
    simp only [compOp, Option.bind_eq_bind, Option.bind_eq_some_iff, Option.pure_def, Option.some.injEq] at hc
    obtain ⟨i, hi, z, hz, hc⟩ := hc
    subst hc
    cases hown : (o.dst.any fun d => own.contains d) with
    | true => rw [hown] at hq; simp [opQ] at hq
    | false => rw [hown] at hq; exact good_allocF R ho hi hz hq
  | build t parts => rw [ho] at hc; exact good_build hT ho hc hq
  | buildSlice t len parts => rw [ho] at hc; exact good_bslice R hT ho hc hq
  | slice t y lo hi mx => rw [ho] at hc; exact good_slice hT ho hc hq
  | nilCheck y => rw [ho] at hc; simp only [compOp, Option.some.injEq] at hc; subst hc; exact good_nilCheck hT ho hq
  | makeInterface t y => rw [ho] at hc; exact good_mkIface hT ho hc hq
  | makeFunc f p q => rw [ho] at hc; simp only [compOp, Option.some.injEq] at hc; subst hc; exact good_mkFunc hT ho hq
  | typeAssert y t' t ok => rw [ho] at hc; exact good_tassert hT ho hc hq
  | call c =>
    rw [ho] at hc
    obtain ⟨callee, args, ats⟩ := c
    simp only [compOp] at hc
    split at hc
    all_goals try (simp only [Option.some.injEq] at hc; subst hc)
    all_goals first
      | (subst_vars; exact good_bi hT ho hq)
      | (simp [opQ] at hq; done)
      | skip
    · exfalso
      repeat' (split at hc)
      all_goals first
        | cases hc; done
        | (simp only [Option.bind_eq_bind, Option.bind_eq_some_iff] at hc
           obtain ⟨_, _, _, _, hc⟩ := hc
           split at hc
           · simp only [Option.pure_def, Option.some.injEq] at hc; subst hc; simp [opQ] at hq
           · cases hc)
    · exfalso
      repeat' (split at hc)
      all_goals first
        | cases hc; done
        | (simp only [Option.bind_eq_bind, Option.bind_eq_some_iff] at hc
           obtain ⟨_, _, hc⟩ := hc
           simp only [Option.pure_def, Option.some.injEq] at hc; subst hc; simp [opQ] at hq)
  | store t y z =>
    rw [ho] at hc
    simp only [compOp, Option.bind_eq_bind, Option.bind_eq_some_iff, Option.pure_def, Option.some.injEq] at hc
    obtain ⟨_, _, hc⟩ := hc
    subst hc; simp [opQ] at hq
  | makeSlice t l c =>
    rw [ho] at hc
    simp only [compOp] at hc
    split at hc
    · simp only [Option.bind_eq_bind, Option.bind_eq_some_iff] at hc
      obtain ⟨_, _, _, _, hc⟩ := hc
      split at hc
      · simp only [Option.pure_def, Option.some.injEq] at hc; subst hc; simp [opQ] at hq
      · cases hc
    · cases hc
  | makeMap t r' =>
    rw [ho] at hc
    cases r' with
    | none =>
      simp only [compOp] at hc
      split at hc
      · simp only [Option.some.injEq] at hc; subst hc; simp [opQ] at hq
      · cases hc
    | some v => simp [compOp] at hc
  | lookup t y i ok =>
    rw [ho] at hc
    simp only [compOp] at hc
    split at hc
    · simp only [Option.bind_eq_bind, Option.bind_eq_some_iff, Option.pure_def, Option.some.injEq] at hc
      obtain ⟨_, _, _, _, hc⟩ := hc
      split at hc
      · simp only [Option.some.injEq] at hc; subst hc; simp [opQ] at hq
      · first | (cases hc; done) | (simp only [Option.some.injEq] at hc; subst hc; simp [opQ] at hq)
    · cases hc
  | mapUpdate t m i v =>
    rw [ho] at hc
    simp only [compOp] at hc
    split at hc
    · split at hc
      · simp only [Option.some.injEq] at hc; subst hc; simp [opQ] at hq
      · first | (cases hc; done) | (simp only [Option.some.injEq] at hc; subst hc; simp [opQ] at hq)
    · cases hc
  | _ => rw [ho] at hc; simp [compOp] at hc

end
end Go.Pb
